/-
  The engine: a map from pairs of ints to rows of the function's own ('m[k] = append(m[k], x)').
  The engine: as c_drawCD, where one operation (i1) hands on a thing that was there before (T0), to be taken by others.
  The engine: arrays of structs of two ints compared; slices of them.
  The engine, part Y: appends onto an empty slice that was just built (its capacity is 0): always new memory, or nothing is done.
-/
import Derived.Test.YtohgladndklciaaEnga
set_option linter.unusedSimpArgs false
set_option linter.unusedVariables false
namespace Go.Eng
open Go.RowKit
def keyP (i j : Int) : Value := .agg #[.int .i64 i, .int .i64 j]
theorem keyP_inj {a b c d : Int} (h : keyP a b = keyP c d) : a = c ∧ b = d := by
  unfold keyP at h
  injection h with h
  injection h with h
  injection h with h1 h2
  injection h2 with h2 _
  injection h1 with _ h1
  injection h2 with _ h2
  exact ⟨h1, h2⟩
section
variable {P : Program}
theorem run_checkKey_pair {t : TypeId} (h : i_8 P t = true) (em : Bool) (w : World) (d : Nat) (a b : Int) : (Instr.checkKey em (d + 2) t (keyP a b)).run P w = .ok () w := by
  unfold i_8 at h
  cases hu : P.underlying t with
  | none => rw [hu] at h; cases h
  | some u =>
    rw [hu] at h
    cases u with
    | struct fs =>
      dsimp only at h
      cases hfs : fs.toList with
      | nil => rw [hfs] at h; cases h
      | cons f l =>
        rw [hfs] at h
        match l, h, hfs with
        | [g], h, hfs =>
          simp only [Bool.and_eq_true, Bool.not_eq_true', bne_iff_ne, ne_eq, beq_iff_eq] at h
          obtain ⟨⟨⟨⟨⟨⟨⟨h1, h2⟩, h3⟩, h4⟩, h5⟩, h6⟩, h7⟩, h8⟩ := h
          have hfa : fs = #[f, g] := by apply Array.ext'; simpa using hfs
          subst hfa
          cases e5 : P.underlying f.type with
          | none => rw [e5] at h5; cases h5
          | some u5 =>
          cases e6 : P.underlying g.type with
          | none => rw [e6] at h6; cases h6
          | some u6 =>
          cases u5 <;> (first | (rw [e5] at h5; cases h5; done) | skip)
          cases u6 <;> (first | (rw [e6] at h6; cases h6; done) | skip)
          rw [Instr.checkKey]
          simp only [keyP, Sem.run_bind, run_underlying hu, Result.andThen_ok]
          simp only [List.forIn_toArray, List.forIn_cons, List.forIn_nil, Sem.run_bind, h1, h2, not_false_eq_true, if_true, ne_eq]
          simp [part, isAgg, run_underlying e5, run_underlying e6, h3, h4, Instr.checkKey]
        | [], h, _ => cases h
        | _ :: _ :: _, h, _ => cases h
    | _ => cases h
def IsP (k _v : Value) : Prop := ∃ i j : Int, k = keyP i j
theorem s_0 {t : TypeId} (h : i_8 P t = true) (i j : Int) : KeyOk P t (keyP i j) IsP where
  check := fun em w => run_checkKey_pair h em w 9998 i j
  eq := fun k' v hk w => by
    obtain ⟨a, b, rfl⟩ := hk
    refine ⟨_, run_equal_pair h i j a b w, ?_⟩
    rw [Bool.and_eq_true, decide_eq_true_eq, decide_eq_true_eq]
    exact ⟨fun ⟨h1, h2⟩ => by rw [h1, h2], fun h => keyP_inj h⟩
  bits := by simp [keyP, Instr.sameBits]
  deep := fun d _ k' => by cases d <;> cases k' <;> rfl
end
structure s_4 (bm : Nat) (es : Array MapEntry) (ck : Nat) (n : Int → Int → Nat) : Prop where
  keys : ∀ (a : Nat) (e : MapEntry), es[a]? = some e → ∃ i j, e.key = keyP i j
  one : ∀ (a b : Nat) (e f : MapEntry), es[a]? = some e → es[b]? = some f → e.key = f.key → a = b
  born : ∀ (a b : Nat) (e f : MapEntry), es[a]? = some e → es[b]? = some f → e.born = f.born → a = b
  clock : ∀ (a : Nat) (e : MapEntry), es[a]? = some e → e.born < ck
  all : ∀ i j, 0 < n i j → ∃ (a : Nat) (e : MapEntry), es[a]? = some e ∧ e.key = keyP i j
def RowsOff (bm : Nat) (es : Array MapEntry) (q : Nat) : Prop :=
  ∀ (a : Nat) (e : MapEntry), es[a]? = some e → a ≠ q → ∀ b, e.val.ownBlock = some b → b ≠ bm ∧ ∀ (a' : Nat) (f : MapEntry), es[a']? = some f → a' ≠ q → a' ≠ a → f.val.ownBlock ≠ some b
def mapX (o : Bool) (bm : Nat) (es : Array MapEntry) (ck q : Nat) (te sz : Nat) (n : Int → Int → Nat) (c : Int → Int → List Value) : Res where
  S := fun b => b = bm ∨ ∃ (a : Nat) (e : MapEntry), es[a]? = some e ∧ a ≠ q ∧ e.val.ownBlock = some b
  p := fun w => w.heap[bm]? = some (.map es ck) ∧ RowsOff bm es q ∧ ∀ (a : Nat) (e : MapEntry), es[a]? = some e → a ≠ q → ∃ i j, e.key = keyP i j ∧ w.ownsRow 0 te sz e.val (n i j) (c i j)
  own := o
  stable := fun w w' ⟨h1, h0, h2⟩ k => ⟨(k bm (.inl rfl)).trans h1, h0, fun a e ha hq => by
    obtain ⟨i, j, hk, hr⟩ := h2 a e ha hq
    exact ⟨i, j, hk, (row e.val te sz (n i j) (c i j)).stable w w' hr fun b hb => k b (.inr ⟨a, e, ha, hq, hb⟩)⟩⟩
  lt := fun w b ⟨h1, h0, h2⟩ hb => by
    rcases hb with rfl | ⟨a, e, ha, hq, hb⟩
    · exact lt_of_heap h1
    · obtain ⟨i, j, hk, hr⟩ := h2 a e ha hq
      exact (row e.val te sz (n i j) (c i j)).lt w b hr hb
section
variable {r : Option Nat} {P : Program} {o : Oper} {a : Act} {w w0 : World} {X : Nat → Prop} {L : List Res}
theorem Sep.cut2 {r r1 r2 : Res} (h : Sep X w0 w (r :: L)) (ho : r.own = true) (h1 : r1.p w) (h2 : r2.p w) (s1 : ∀ b, r1.S b → r.S b) (s2 : ∀ b, r2.S b → r.S b) (hd : ∀ b, r1.S b → ¬ r2.S b) : Sep X w0 w (r1 :: r2 :: L) := by
  have hp := List.pairwise_cons.1 h.pw
  refine Sep.of_pw h.ext (fun x hx => ?_) (fun x hx hox b hb => ?_) (List.pairwise_cons.2 ⟨fun x hx => ?_, List.pairwise_cons.2 ⟨fun x hx => ?_, hp.2⟩⟩)
  · rcases List.mem_cons.1 hx with rfl | hx
    · exact h1
    · rcases List.mem_cons.1 hx with rfl | hx
      · exact h2
      · exact h.mem (List.mem_cons_of_mem _ hx)
  · rcases List.mem_cons.1 hx with rfl | hx
    · exact h.mineM (List.mem_cons_self ..) ho b (s1 b hb)
    · rcases List.mem_cons.1 hx with rfl | hx
      · exact h.mineM (List.mem_cons_self ..) ho b (s2 b hb)
      · exact h.mineM (List.mem_cons_of_mem _ hx) hox b hb
  · rcases List.mem_cons.1 hx with rfl | hx
    · exact ⟨fun _ b hb => hd b hb, fun _ b hb hb1 => hd b hb1 hb⟩
    · have := hp.1 x hx
      exact ⟨fun _ b hb => this.1 ho b (s1 b hb), fun hox b hb hb1 => this.2 hox b hb (s1 b hb1)⟩
  · have := hp.1 x hx
    exact ⟨fun _ b hb => this.1 ho b (s2 b hb), fun hox b hb hb1 => this.2 hox b hb (s2 b hb1)⟩
theorem keyOk_find {kt : TypeId} {i j : Int} {d : TypeDesc} (h2 : i_8 P kt = true) (hd : P.underlying kt = some d) {es : Array MapEntry} (hk : ∀ (a : Nat) (e : MapEntry), es[a]? = some e → ∃ i j, e.key = keyP i j) (w : World) :
    ∃ res, (Instr.findKey kt (keyP i j) es.toList).run P w = .ok res w ∧ ((res = none ∧ ∀ (a : Nat) (e : MapEntry), es[a]? = some e → e.key ≠ keyP i j) ∨ ∃ (q : Nat) (e : MapEntry), res = some (q, e.val) ∧ es[q]? = some e ∧ e.key = keyP i j) := by
  obtain ⟨res, hr, hc⟩ := run_findKey hd (s_0 h2 i j) w es.toList (fun e he => by
    obtain ⟨a, ha⟩ := List.getElem?_of_mem he
    exact hk a e (by simpa using ha))
  refine ⟨res, hr, ?_⟩
  rcases hc with ⟨h1, h2⟩ | ⟨q, e, h1, h2, h3⟩
  · exact .inl ⟨h1, fun a e ha => h2 e (List.mem_of_getElem? (i := a) (by simpa using ha))⟩
  · exact .inr ⟨q, e, h1, by simpa using h2, h3⟩
theorem setObj_run {bm c0 : Nat} {m0 : Array MapEntry} (hb : w.heap[bm]? = some (.map m0 c0)) (o' : Obj) : (setObj bm o').run P w = .ok () { w with heap := w.heap.setIfInBounds bm o' } := by simp [setObj, Sem.run, hb]
theorem u_8 {bm c0 : Nat} {m0 : Array MapEntry} (hb : w.heap[bm]? = some (.map m0 c0)) : (getObj bm).run P w = .ok (.map m0 c0) w := by simp [getObj, Sem.run, hb]
theorem setObj_ext (w : World) (bm : Nat) (o' : Obj) : Ext (fun k => k = bm) w { w with heap := w.heap.setIfInBounds bm o' } := ⟨rfl, rfl, rfl, by simp, fun b _ hne => Array.getElem?_setIfInBounds_ne (fun e => hne e.symm)⟩
theorem set_heap_same {bm : Nat} {x : Obj} (hb : w.heap[bm]? = some x) : ({ w with heap := w.heap.setIfInBounds bm x } : World) = w := by
  have : w.heap.setIfInBounds bm x = w.heap := by
    apply Array.ext_getElem?
    intro i
    by_cases e : bm = i
    · subst e; rw [Array.getElem?_setIfInBounds_self_of_lt (lt_of_heap hb), hb]
    · rw [Array.getElem?_setIfInBounds_ne e]
  rw [this]
theorem modify_same {es : Array MapEntry} {q : Nat} {e : MapEntry} (h : es[q]? = some e) {f : MapEntry → MapEntry} (hf : f e = e) : es.modify q f = es := by
  apply Array.ext_getElem?
  intro i
  rw [Array.getElem?_modify]
  split
  · rename_i hq; subst hq; rw [h]; simp [hf]
  · rfl
variable {t kt te sz bm ck q : Nat} {x y : Operand} {i j : Int} {d : TypeDesc} {es : Array MapEntry} {n n' : Int → Int → Nat} {c c' : Int → Int → List Value}
theorem op_mapEntryY {tv : Nat} {e : MapEntry} (hS : Sep X w0 w (mapX true bm es ck es.size te sz n c :: L)) (ho : o.op = .mapEntry t x y) (ht : P.underlying t = some (.map kt tv)) (hd : P.underlying kt = some d) (h2 : i_8 P kt = true)
    (hx : a.eval x = .map (some bm)) (hy : a.eval y = keyP i j) (hM : s_4 bm es ck n) (hq : es[q]? = some e) (hk : e.key = keyP i j) :
    OpY r P o a w (fun v' w' => v' = .tuple #[e.val, .int .i64 (e.born : Int)] ∧ Sep X w0 w' (row e.val te sz (n i j) (c i j) :: mapX true bm es ck q te sz n c :: L)) := by
  obtain ⟨hb, hoff, hrow⟩ := hS.ok 0 _ rfl
  obtain ⟨res, hr, hc⟩ := keyOk_find (i := i) (j := j) h2 hd hM.keys w
  rcases hc with ⟨rfl, hno⟩ | ⟨q', e', rfl, hq', hk'⟩
  · exact absurd hk (hno q e hq)
  · have hqq := hM.one q' q e' e hq' hq (hk'.trans hk.symm)
    subst hqq
    have hee : e' = e := by rw [hq] at hq'; exact (Option.some.inj hq').symm
    subst hee
    have hlt : q' < es.size := (Array.getElem?_eq_some_iff.1 hq).1
    have hmod : (es.modify q' fun e => { e with key := keyP i j }) = es := modify_same hq (by rw [← hk])
    have hkt : (Instr.keyThatStays e'.key (keyP i j)).run P w = .ok (keyP i j) w := by
      simp only [hk, Instr.keyThatStays, (s_0 h2 i j).bits, if_true, Sem.run_pure]
    refine d_2 (v := .tuple #[e'.val, .int .i64 (e'.born : Int)]) (w' := w) (by rw [ho]; rfl) ?_ ⟨rfl, ?_⟩
    · simp only [execOp, ho, hx, hy, Instr.mapEntry, Sem.run_bind, run_underlying ht, Result.andThen_ok, u_8 hb, (s_0 h2 i j).check, hr, hkt, setObj_run hb, hmod, set_heap_same hb, Sem.run_pure, goInt, hq, Option.map_some, Option.getD_some]
    · obtain ⟨i', j', hk2, hrw⟩ := hrow q' e' hq (by omega)
      obtain ⟨rfl, rfl⟩ := keyP_inj (hk.symm.trans hk2)
      refine hS.cut2 rfl hrw ⟨hb, fun a f ha hne b hb' => ?_, fun a f ha hne => hrow a f ha (by have := (Array.getElem?_eq_some_iff.1 ha).1; omega)⟩ (fun b hb' => .inr ⟨q', e', hq, by omega, hb'⟩) (fun b hb' => ?_) (fun b hb1 hb2 => ?_)
      · have hal := (Array.getElem?_eq_some_iff.1 ha).1
        have h3 := hoff a f ha (by omega) b hb'
        exact ⟨h3.1, fun a' g ha' hne1 hne2 => h3.2 a' g ha' (by have := (Array.getElem?_eq_some_iff.1 ha').1; omega) hne2⟩
      · rcases hb' with rfl | ⟨a, f, ha, hne, hb'⟩
        · exact .inl rfl
        · exact .inr ⟨a, f, ha, by have := (Array.getElem?_eq_some_iff.1 ha).1; omega, hb'⟩
      · have h3 := hoff q' e' hq (by omega) b hb1
        rcases hb2 with rfl | ⟨a, f, ha, hne, hb2⟩
        · exact h3.1 rfl
        · exact h3.2 a f ha (by have := (Array.getElem?_eq_some_iff.1 ha).1; omega) hne hb2
theorem op_mapEntryN {tv : Nat} (hS : Sep X w0 w (mapX true bm es ck es.size te sz n c :: L)) (ho : o.op = .mapEntry t x y) (ht : P.underlying t = some (.map kt tv)) (hd : P.underlying kt = some d) (h2 : i_8 P kt = true) (hz : (P.info? tv).bind (·.zero) = some (.slice none 0 0))
    (hx : a.eval x = .map (some bm)) (hy : a.eval y = keyP i j) (hM : s_4 bm es ck n) (hno : ∀ (a : Nat) (e : MapEntry), es[a]? = some e → e.key ≠ keyP i j) :
    OpY r P o a w (fun v' w' => v' = .tuple #[.slice none 0 0, .int .i64 (ck : Int)] ∧ Sep X w0 w' (row (.slice none 0 0) te sz 0 [] :: mapX true bm (es.push { key := keyP i j, val := .slice none 0 0, born := ck }) (ck + 1) es.size te sz n c :: L)) := by
  obtain ⟨hb, hoff, hrow⟩ := hS.ok 0 _ rfl
  obtain ⟨res, hr, hc⟩ := keyOk_find (i := i) (j := j) h2 hd hM.keys w
  rcases hc with ⟨rfl, _⟩ | ⟨q', e', rfl, hq', hk'⟩
  · refine d_2 (v := .tuple #[.slice none 0 0, .int .i64 (ck : Int)]) (w' := { w with heap := w.heap.setIfInBounds bm (.map (es.push { key := keyP i j, val := .slice none 0 0, born := ck }) (ck + 1)) }) (by rw [ho]; rfl) ?_ ⟨rfl, ?_⟩
    · simp only [execOp, ho, hx, hy, Instr.mapEntry, Sem.run_bind, run_underlying ht, Result.andThen_ok, u_8 hb, (s_0 h2 i j).check, hr, setObj_run hb, r_7 hz, Sem.run_pure, goInt]
    · have old : ∀ {a : Nat} {e : MapEntry}, (es.push { key := keyP i j, val := .slice none 0 0, born := ck })[a]? = some e → a ≠ es.size → es[a]? = some e := fun {a e} h hne => by
        rw [Array.getElem?_push] at h
        rw [if_neg hne] at h; exact h
      have := hS.upd (i := 0) (r' := mapX true bm (es.push { key := keyP i j, val := .slice none 0 0, born := ck }) (ck + 1) es.size te sz n c) rfl rfl ((setObj_ext w bm (.map (es.push { key := keyP i j, val := .slice none 0 0, born := ck }) (ck + 1))).mono (fun b hb => by subst hb; exact .inl rfl)) ⟨by simp [lt_of_heap hb], fun a e ha hne b hb' => ?_, fun a e ha hne => ?_⟩ (fun b hb' => .inl ?_)
      · exact this.v_7 te sz
      · have h3 := hoff a e (old ha hne) hne b hb'
        exact ⟨h3.1, fun a' f ha' hne1 hne2 => h3.2 a' f (old ha' hne1) hne1 hne2⟩
      · obtain ⟨i', j', hk, hrw⟩ := hrow a e (old ha hne) hne
        refine ⟨i', j', hk, (row e.val te sz (n i' j') (c i' j')).stable w _ hrw fun b hb' => Array.getElem?_setIfInBounds_ne (fun e' => ?_)⟩
        exact (hoff a e (old ha hne) hne b hb').1 e'.symm
      · rcases hb' with rfl | ⟨a, e, ha, hne, hb'⟩
        · exact .inl rfl
        · exact .inr ⟨a, e, old ha hne, hne, hb'⟩
  · exact absurd hk' (hno q' e' hq')
def EntOf (es : Array MapEntry) (ck : Nat) (es1 : Array MapEntry) (ck1 q : Nat) (i j : Int) : Prop :=
  (es1 = es ∧ ck1 = ck) ∨ (es1 = es.push { key := keyP i j, val := .slice none 0 0, born := ck } ∧ ck1 = ck + 1 ∧ q = es.size ∧ ∀ (a : Nat) (e : MapEntry), es[a]? = some e → e.key ≠ keyP i j)
theorem op_mapEntryE {tv ck1 : Nat} {e : MapEntry} {es1 : Array MapEntry} (hS : Sep X w0 w (mapX true bm es ck es.size te sz n c :: L)) (ho : o.op = .mapEntry t x y) (ht : P.underlying t = some (.map kt tv)) (hd : P.underlying kt = some d) (h2 : i_8 P kt = true) (hz : (P.info? tv).bind (·.zero) = some (.slice none 0 0))
    (hx : a.eval x = .map (some bm)) (hy : a.eval y = keyP i j) (hM : s_4 bm es ck n) (hc : ∀ i j, n i j = 0 → c i j = []) (hE : EntOf es ck es1 ck1 q i j) (hq : es1[q]? = some e) (hk : e.key = keyP i j) :
    OpY r P o a w (fun v' w' => v' = .tuple #[e.val, .int .i64 (e.born : Int)] ∧ Sep X w0 w' (row e.val te sz (n i j) (c i j) :: mapX true bm es1 ck1 q te sz n c :: L)) := by
  rcases hE with ⟨rfl, rfl⟩ | ⟨rfl, rfl, rfl, hno⟩
  · exact op_mapEntryY hS ho ht hd h2 hx hy hM hq hk
  · have he : e = { key := keyP i j, val := .slice none 0 0, born := ck } := by
      rw [Array.getElem?_push, if_pos rfl] at hq; exact (Option.some.inj hq).symm
    subst he
    have h0 : n i j = 0 := by
      rcases Nat.eq_zero_or_pos (n i j) with h | h
      · exact h
      · obtain ⟨a', e, ha, hk⟩ := hM.all i j h
        exact absurd hk (hno a' e ha)
    rw [hc i j h0, h0]
    exact op_mapEntryN hS ho ht hd h2 hz hx hy hM hno
theorem op_entryStore {st u : Operand} {v : Value} {m : Nat} {cs : List Value} {e : MapEntry} (hS : Sep X w0 w (row v te sz m cs :: mapX true bm es ck q te sz n c :: L)) (ho : o.op = .entryStore t x st u) (hx : a.eval x = .map (some bm)) (hst : a.eval st = .int .i64 (e.born : Int)) (hu : a.eval u = v)
    (hM : s_4 bm es ck n) (hq : es[q]? = some e) (hk : e.key = keyP i j) (hn : n' i j = m) (hc : c' i j = cs) (hn' : ∀ a b, ¬ (a = i ∧ b = j) → n' a b = n a b ∧ c' a b = c a b) :
    OpY r P o a w (fun _ w' => Sep X w0 w' (mapX true bm (es.modify q fun e => { e with val := v }) ck (es.modify q fun e => { e with val := v }).size te sz n' c' :: L)) := by
  rw [show (es.modify q fun e => { e with val := v }).size = es.size from Array.size_modify]
  obtain ⟨hb, hoff, hrow⟩ := hS.ok 1 _ rfl
  have hrw := hS.ok 0 _ rfl
  have hlt : q < es.size := (Array.getElem?_eq_some_iff.1 hq).1
  have hfind : es.findIdx? (fun f => ((f.born : Int) == (e.born : Int))) = some q := by
    rw [Array.findIdx?_eq_some_iff_getElem]
    have hge := (Array.getElem?_eq_some_iff.1 hq).2
    refine ⟨hlt, by rw [hge]; simp, fun a ha => ?_⟩
    simp only [beq_iff_eq, Bool.not_eq_true, beq_eq_false_iff_ne, ne_eq]
    intro h
    have hh : (es[a]'(by omega)).born = e.born := Int.ofNat_inj.1 h
    have := hM.born a q _ e (Array.getElem?_eq_getElem (by omega)) hq hh
    omega
  have hap := List.pairwise_cons.1 hS.pw
  have hap1 := hap.1 _ (List.mem_cons_self ..)
  have hnbm : ∀ b, v.ownBlock = some b → b ≠ bm := fun b hb' e' => hap1.1 rfl b hb' (.inl e')
  have at' : ∀ {a : Nat} {f : MapEntry}, (es.modify q fun e => { e with val := v })[a]? = some f → (a = q ∧ f = { e with val := v }) ∨ (a ≠ q ∧ es[a]? = some f) := fun {a f} h => by
    rw [Array.getElem?_modify] at h
    split at h
    · rename_i hqa; subst hqa; rw [hq] at h; simp at h; exact .inl ⟨rfl, h.symm⟩
    · rename_i hqa; exact .inr ⟨fun e' => hqa e'.symm, h⟩
  refine opY_skip (w' := { w with heap := w.heap.setIfInBounds bm (.map (es.modify q fun e => { e with val := v }) ck) }) (by rw [ho]; rfl) ?_ ?_
  · simp only [execOp, ho, hx, hst, hu, Instr.entryStore, Sem.run_bind, u_8 hb, Result.andThen_ok, asInt, asIntOf, Sem.run_pure, hfind, setObj_run hb]
  · have hS1 : Sep X w0 { w with heap := w.heap.setIfInBounds bm (.map (es.modify q fun e => { e with val := v }) ck) } (row v te sz m cs :: mapX true bm (es.modify q fun e => { e with val := v }) ck q te sz n c :: L) := by
      refine hS.upd (i := 1) (r' := mapX true bm (es.modify q fun e => { e with val := v }) ck q te sz n c) rfl rfl ((setObj_ext w bm (.map (es.modify q fun e => { e with val := v }) ck)).mono (fun b hb => by subst hb; exact .inl rfl)) ⟨by simp [lt_of_heap hb], fun a f ha hne b hb' => ?_, fun a f ha hne => ?_⟩ (fun b hb' => .inl ?_)
      · rcases at' ha with ⟨h1, _⟩ | ⟨_, ha⟩
        · exact absurd h1 hne
        · have h3 := hoff a f ha hne b hb'
          exact ⟨h3.1, fun a' g ha' hne1 hne2 => by
            rcases at' ha' with ⟨h1, _⟩ | ⟨_, ha'⟩
            · exact absurd h1 hne1
            · exact h3.2 a' g ha' hne1 hne2⟩
      · rcases at' ha with ⟨h1, _⟩ | ⟨_, ha⟩
        · exact absurd h1 hne
        · obtain ⟨i', j', hk', hrw'⟩ := hrow a f ha hne
          refine ⟨i', j', hk', (row f.val te sz (n i' j') (c i' j')).stable w _ hrw' fun b hb' => Array.getElem?_setIfInBounds_ne (fun e' => ?_)⟩
          exact (hoff a f ha hne b hb').1 e'.symm
      · rcases hb' with rfl | ⟨a, f, ha, hne, hb'⟩
        · exact .inl rfl
        · rcases at' ha with ⟨h1, _⟩ | ⟨_, ha⟩
          · exact absurd h1 hne
          · exact .inr ⟨a, f, ha, hne, hb'⟩
    obtain ⟨hb1, hoff1, hrow1⟩ := hS1.ok 1 _ rfl
    have hrw1 := hS1.ok 0 _ rfl
    have hap2 := (List.pairwise_cons.1 hS1.pw).1 _ (List.mem_cons_self ..)
    refine hS1.join (t := mapX true bm (es.modify q fun e => { e with val := v }) ck es.size te sz n' c') ⟨hb1, fun a f ha _ b hb' => ?_, fun a f ha _ => ?_⟩ (fun b hb' => ?_) (fun _ => ⟨rfl, rfl⟩) (fun _ => trivial)
    · rcases at' ha with ⟨rfl, rfl⟩ | ⟨hne, ha0⟩
      · refine ⟨hnbm b hb', fun a' g ha' _ hne2 => ?_⟩
        intro hg
        exact hap2.1 rfl b hb' (.inr ⟨a', g, ha', hne2, hg⟩)
      · have h3 := hoff1 a f ha hne b hb'
        refine ⟨h3.1, fun a' g ha' _ hne2 hg => ?_⟩
        rcases at' ha' with ⟨rfl, rfl⟩ | ⟨hne', ha0'⟩
        · exact hap2.1 rfl b hg (.inr ⟨a, f, ha, hne, hb'⟩)
        · exact h3.2 a' g ha' hne' hne2 hg
    · rcases at' ha with ⟨rfl, rfl⟩ | ⟨hne, ha0⟩
      · exact ⟨i, j, hk, by rw [hn, hc]; exact hrw1⟩
      · obtain ⟨i', j', hk', hrw'⟩ := hrow1 a f ha hne
        have hnk : ¬ (i' = i ∧ j' = j) := fun h => by
          rw [h.1, h.2] at hk'
          exact hne (hM.one a q f e ha0 hq (hk'.trans hk.symm))
        exact ⟨i', j', hk', by rw [(hn' i' j' hnk).1, (hn' i' j' hnk).2]; exact hrw'⟩
    · rcases hb' with rfl | ⟨a, f, ha, _, hb'⟩
      · exact .inr (.inl rfl)
      · rcases at' ha with ⟨rfl, rfl⟩ | ⟨hne, ha0⟩
        · exact .inl hb'
        · exact .inr (.inr ⟨a, f, ha, hne, hb'⟩)
theorem op_lookupX {tv ix : Nat} {own : Bool} (hS : Sep X w0 w L) (ho : o.op = .lookup t x y false) (ht : P.underlying t = some (.map kt tv)) (hd : P.underlying kt = some d) (h2 : i_8 P kt = true) (hz : (P.info? tv).bind (·.zero) = some (.slice none 0 0))
    (hx : a.eval x = .map (some bm)) (hy : a.eval y = keyP i j) (hi : L[ix]? = some (mapX own bm es ck es.size te sz n c)) (hM : s_4 bm es ck n) (hc : ∀ i j, n i j = 0 → c i j = []) :
    OpY r P o a w (fun v' w' => w' = w ∧ ∀ W, (mapX own bm es ck es.size te sz n c).p W → SlAt W v' sz (n i j) (c i j)) := by
  obtain ⟨hb, hoff, hrow⟩ := hS.ok ix _ hi
  obtain ⟨res, hr, hcs⟩ := keyOk_find (i := i) (j := j) h2 hd hM.keys w
  rcases hcs with ⟨rfl, hno⟩ | ⟨q', e', rfl, hq', hk'⟩
  · refine d_2 (v := .slice none 0 0) (w' := w) (by rw [ho]; rfl) ?_ ⟨rfl, fun W _ => ?_⟩
    · simp only [execOp, ho, hx, hy, Instr.lookup, Sem.run_bind, run_underlying ht, Result.andThen_ok, u_8 hb, Sem.run_pure, (s_0 h2 i j).check, hr, r_7 hz, Bool.false_eq_true, if_false]
    · have h0 : n i j = 0 := by
        rcases Nat.eq_zero_or_pos (n i j) with h | h
        · exact h
        · obtain ⟨a', e, ha, hk⟩ := hM.all i j h
          exact absurd hk (hno a' e ha)
      rw [hc i j h0, h0]; exact slAt_nil W sz
  · refine d_2 (v := e'.val) (w' := w) (by rw [ho]; rfl) ?_ ⟨rfl, fun W hW => ?_⟩
    · simp only [execOp, ho, hx, hy, Instr.lookup, Sem.run_bind, run_underlying ht, Result.andThen_ok, u_8 hb, Sem.run_pure, (s_0 h2 i j).check, hr, Bool.false_eq_true, if_false]
    · obtain ⟨_, _, hrW⟩ := hW
      obtain ⟨i', j', hk, hrw⟩ := hrW q' e' hq' (by have := (Array.getElem?_eq_some_iff.1 hq').1; omega)
      obtain ⟨rfl, rfl⟩ := keyP_inj (hk'.symm.trans hk)
      exact SlAt.g_9 hrw
theorem op_makeMapX {te sz : Nat} {n : Int → Int → Nat} {c : Int → Int → List Value} (hS : Sep X w0 w L) (ho : o.op = .makeMap t none) :
    OpY r P o a w (fun v' w' => ∃ bm, v' = .map (some bm) ∧ Sep X w0 w' (mapX true bm #[] 0 (#[] : Array MapEntry).size te sz n c :: L)) :=
  d_2 (v := .map (some w.heap.size)) (w' := w.alloc (.map #[] 0)) (by rw [ho]; rfl) (by
    simp only [execOp, ho, Instr.makeMap, newObj, Sem.run_bind, Sem.run, Sem.run_pure, Result.andThen_ok, Option.map_none]; rfl)
    ⟨_, rfl, hS.push (Ext.alloc NoB w _) ⟨heap_alloc_new w _, fun a e ha => by simp at ha, fun a e ha => by simp at ha⟩ (fun b hb => by
      rcases hb with rfl | ⟨a, e, ha, _⟩
      · exact Nat.le_refl _
      · simp at ha)⟩
end
theorem s_4.none {bm : Nat} {n : Int → Int → Nat} (h : ∀ i j, n i j = 0) : s_4 bm #[] 0 n :=
  ⟨fun a e ha => by simp at ha, fun a b e f ha => by simp at ha, fun a b e f ha => by simp at ha, fun a e ha => by simp at ha, fun i j hn => by rw [h i j] at hn; exact absurd hn (Nat.lt_irrefl 0)⟩
theorem s_4.push {bm ck : Nat} {es : Array MapEntry} {n : Int → Int → Nat} {i j : Int} {v : Value} (h : s_4 bm es ck n) (hno : ∀ (a : Nat) (e : MapEntry), es[a]? = some e → e.key ≠ keyP i j) : s_4 bm (es.push { key := keyP i j, val := v, born := ck }) (ck + 1) n := by
  have at' : ∀ {a : Nat} {e : MapEntry}, (es.push { key := keyP i j, val := v, born := ck })[a]? = some e → (a = es.size ∧ e = { key := keyP i j, val := v, born := ck }) ∨ es[a]? = some e := fun {a e} h => by
    rw [Array.getElem?_push] at h
    split at h
    · rename_i ha; exact .inl ⟨ha, (Option.some.inj h).symm⟩
    · exact .inr h
  refine ⟨fun a e ha => ?_, fun a b e f ha hb hk => ?_, fun a b e f ha hb hk => ?_, fun a e ha => ?_, fun i' j' hn => ?_⟩
  · rcases at' ha with ⟨_, rfl⟩ | ha
    · exact ⟨i, j, rfl⟩
    · exact h.keys a e ha
  · rcases at' ha with ⟨rfl, rfl⟩ | ha
    · rcases at' hb with ⟨rfl, rfl⟩ | hb
      · rfl
      · exact absurd hk.symm (hno b f hb)
    · rcases at' hb with ⟨rfl, rfl⟩ | hb
      · exact absurd hk (hno a e ha)
      · exact h.one a b e f ha hb hk
  · rcases at' ha with ⟨rfl, rfl⟩ | ha
    · rcases at' hb with ⟨rfl, rfl⟩ | hb
      · rfl
      · have := h.clock b f hb; dsimp only at hk; omega
    · rcases at' hb with ⟨rfl, rfl⟩ | hb
      · have := h.clock a e ha; dsimp only at hk; omega
      · exact h.born a b e f ha hb hk
  · rcases at' ha with ⟨_, rfl⟩ | ha
    · exact Nat.lt_succ_self _
    · have := h.clock a e ha; omega
  · obtain ⟨a, e, ha, hk⟩ := h.all i' j' hn
    refine ⟨a, e, ?_, hk⟩
    have := (Array.getElem?_eq_some_iff.1 ha).1
    rw [Array.getElem?_push, if_neg (by omega)]; exact ha
theorem s_4.store {bm ck q : Nat} {es : Array MapEntry} {n n' : Int → Int → Nat} {i j : Int} {v : Value} {e : MapEntry} (h : s_4 bm es ck n) (hq : es[q]? = some e) (hk : e.key = keyP i j) (hn' : ∀ a b, ¬ (a = i ∧ b = j) → n' a b = n a b) : s_4 bm (es.modify q fun e => { e with val := v }) ck n' := by
  have at' : ∀ {a : Nat} {f : MapEntry}, (es.modify q fun e => { e with val := v })[a]? = some f → ∃ g, es[a]? = some g ∧ g.key = f.key ∧ g.born = f.born := fun {a f} h => by
    rw [Array.getElem?_modify] at h
    split at h
    · rename_i hqa; subst hqa; rw [hq] at h; simp at h; subst h; exact ⟨e, hq, rfl, rfl⟩
    · exact ⟨f, h, rfl, rfl⟩
  refine ⟨fun a f ha => ?_, fun a b f g ha hb hk => ?_, fun a b f g ha hb hk => ?_, fun a f ha => ?_, fun i' j' hn => ?_⟩
  · obtain ⟨g, h1, h2, _⟩ := at' ha
    rw [← h2]; exact h.keys a g h1
  · obtain ⟨f', h1, h2, _⟩ := at' ha
    obtain ⟨g', h3, h4, _⟩ := at' hb
    exact h.one a b f' g' h1 h3 (by rw [h2, h4]; exact hk)
  · obtain ⟨f', h1, _, h2⟩ := at' ha
    obtain ⟨g', h3, _, h4⟩ := at' hb
    exact h.born a b f' g' h1 h3 (by rw [h2, h4]; exact hk)
  · obtain ⟨f', h1, _, h2⟩ := at' ha
    rw [← h2]; exact h.clock a f' h1
  · by_cases hc : i' = i ∧ j' = j
    · obtain ⟨rfl, rfl⟩ := hc
      refine ⟨q, { e with val := v }, ?_, hk⟩
      rw [Array.getElem?_modify, if_pos rfl, hq]; rfl
    · rw [hn' i' j' hc] at hn
      obtain ⟨a, f, ha, hf⟩ := h.all i' j' hn
      have hne : a ≠ q := fun e' => by
        subst e'
        rw [hq] at ha
        cases ha
        exact hc (keyP_inj (hf.symm.trans hk))
      exact ⟨a, f, by rw [Array.getElem?_modify, if_neg (fun e' => hne e'.symm)]; exact ha, hf⟩
theorem map_entry {bm ck : Nat} {es : Array MapEntry} {n : Int → Int → Nat} (i j : Int) (h : s_4 bm es ck n) : ∃ (es1 : Array MapEntry) (ck1 q : Nat) (e : MapEntry), s_4 bm es1 ck1 n ∧ es1[q]? = some e ∧ e.key = keyP i j ∧ EntOf es ck es1 ck1 q i j := by
  by_cases hx : ∃ (a : Nat) (e : MapEntry), es[a]? = some e ∧ e.key = keyP i j
  · obtain ⟨a, e, ha, hk⟩ := hx
    exact ⟨es, ck, a, e, h, ha, hk, .inl ⟨rfl, rfl⟩⟩
  · have hno : ∀ (a : Nat) (e : MapEntry), es[a]? = some e → e.key ≠ keyP i j := fun a e ha hk => hx ⟨a, e, ha, hk⟩
    exact ⟨_, _, es.size, _, h.push hno (v := .slice none 0 0), by rw [Array.getElem?_push, if_pos rfl], rfl, .inr ⟨rfl, rfl, rfl, hno⟩⟩
section
variable {r : Option Nat} {P : Program} {o : Oper} {a : Act} {w w0 : World} {X : Nat → Prop} {L : List Res} {t kt te sz bm ck q : Nat} {x y : Operand} {i j : Int} {es : Array MapEntry} {n n' : Int → Int → Nat} {c c' : Int → Int → List Value}
theorem twoInts_some {t : TypeId} (h : i_8 P t = true) : ∃ d, P.underlying t = some d := by
  unfold i_8 at h
  cases hu : P.underlying t with
  | none => rw [hu] at h; cases h
  | some u => exact ⟨u, rfl⟩
theorem op_mapEntryF {tv ck1 : Nat} {e : MapEntry} {es1 : Array MapEntry} (hS : Sep X w0 w (mapX true bm es ck es.size te sz n c :: L)) (ho : o.op = .mapEntry t x y) (ht : P.underlying t = some (.map kt tv)) (h2 : i_8 P kt = true) (hz : (P.info? tv).bind (·.zero) = some (.slice none 0 0))
    (hx : a.eval x = .map (some bm)) (hy : a.eval y = keyP i j) (hM : s_4 bm es ck n) (hc : ∀ i j, n i j = 0 → c i j = []) (hE : EntOf es ck es1 ck1 q i j) (hq : es1[q]? = some e) (hk : e.key = keyP i j) :
    OpY r P o a w (fun v' w' => v' = .tuple #[e.val, .int .i64 (e.born : Int)] ∧ Sep X w0 w' (row e.val te sz (n i j) (c i j) :: mapX true bm es1 ck1 q te sz n c :: L)) := by
  obtain ⟨d, hd⟩ := twoInts_some h2
  exact op_mapEntryE hS ho ht hd h2 hz hx hy hM hc hE hq hk
theorem op_lookupF {tv ix : Nat} {own : Bool} (hS : Sep X w0 w L) (ho : o.op = .lookup t x y false) (ht : P.underlying t = some (.map kt tv)) (h2 : i_8 P kt = true) (hz : (P.info? tv).bind (·.zero) = some (.slice none 0 0))
    (hx : a.eval x = .map (some bm)) (hy : a.eval y = keyP i j) (hi : L[ix]? = some (mapX own bm es ck es.size te sz n c)) (hM : s_4 bm es ck n) (hc : ∀ i j, n i j = 0 → c i j = []) :
    OpY r P o a w (fun v' w' => w' = w ∧ ∀ W, (mapX own bm es ck es.size te sz n c).p W → SlAt W v' sz (n i j) (c i j)) := by
  obtain ⟨d, hd⟩ := twoInts_some h2
  exact op_lookupX hS ho ht hd h2 hz hx hy hi hM hc
end
theorem mapX_ro {w : World} {bm : Nat} {es : Array MapEntry} {ck q te sz : Nat} {n : Int → Int → Nat} {c : Int → Int → List Value} (h : (mapX true bm es ck q te sz n c).p w) : (mapX false bm es ck q te sz n c).p w := h
end Go.Eng

namespace Go.Eng
open Go.RowKit
section
variable {r : Option Nat} {P : Program} {Q : Exit → Act → World → Prop} {n : Nat} {ds : List Deferred} {m : List (Nat × Value)} {X : Nat → Prop} {w0 : World} {L : List Res}
def CEInv (l : List Oper) (h n : Nat) (ds : List Deferred) (m : List (Nat × Value)) (X : Nat → Prop) (w0 : World) (L : List Res) (Y : List YV) (C : List (Nat × Nat)) (i1 : Nat) (T0 : Res) (done : Nat → Bool) (a : Act) (w' : World) : Prop :=
  Fr n ds m a ∧ ∃ vs rsf, (∀ i, i < h → done i = true → i_9 l.toArray a i (vs i) ∧ ∃ rs, yat Y i vs (vs i) rs ∧ (liveC C done i → rsf i = rs)) ∧ (∀ i, done i = false → i ≠ i1 → rsf i = []) ∧ (done i1 = false → rsf i1 = [T0]) ∧ (∀ p, p ∈ C → done p.1 = true → rsf p.2 = []) ∧ Sep X w0 w' (catR rsf 0 h ++ L)
theorem catR_nil : ∀ (h k : Nat), catR (fun _ => []) k h = []
  | 0, _ => rfl
  | h + 1, k => by show [] ++ catR _ (k + 1) h = []; rw [catR_nil h]; rfl
theorem catR_front {rsf : Nat → List Res} {h i : Nat} (hi : i < h) : (catR rsf 0 h).Perm (rsf i ++ catR (upd rsf i []) 0 h) := by
  have hup : upd (upd rsf i []) i (rsf i) = rsf := by
    funext k; unfold upd; by_cases e : k = i
    · subst e; rw [if_pos rfl]
    · rw [if_neg e, if_neg e]
  have := v_5 (upd rsf i []) i (rsf i) (upd_same _ _ _) h 0 (Nat.zero_le _) (by omega)
  rw [hup] at this; exact this
theorem c_drawCE {id : Nat} {l : List Oper} {a : Act} {w : World} (hm : P.follows .mixedOrders = true) (hA : Fr n ds m a) (T0 : Res) (hS : Sep X w0 w (T0 :: L)) (h i1 : Nat) (C : List (Nat × Nat)) (dl : List (List Nat)) (Y : List YV)
    (hi1 : (decide (i1 < h) && C.all (fun p => decide (p.1 ≠ i1))) = true)
    (hC : C.all (fun p => decide (p.2 ≠ p.1) && decide (p.1 < h) && decide (p.2 < h) && (dl.getD p.1 []).contains p.2) = true)
    (hC1 : C.all (fun p => C.all fun q => (decide (p.1 ≠ q.1) && decide (p.2 ≠ q.2)) || decide (p = q)) = true)
    (hok : t_3 l.toArray h (fun _ => []) = true) (hok2 : depsOk l.toArray h dl = true) (hfree : freeOf l.toArray h (m.map (·.1)) = true) (hn : (List.range h).all (fun j => match (l.toArray[j]?).bind (·.dst) with | some d => decide (d < n) | none => true) = true)
    (hdep : AllDep dl Y)
    (hop : s_3 (fun j o => C.all (fun p => decide (p.1 ≠ j)) = true → j ≠ i1 → ∀ a w' vs, Fr n ds m a → Sep X w0 w' L → (∀ i ∈ dl.getD j [], i_9 l.toArray a i (vs i) ∧ ∃ rs, yat Y i vs (vs i) rs ∧ (C.all (fun p => decide (p.2 ≠ i)) = true → ∀ s ∈ rs, s.p w')) → OpG r P l.toArray o a w' (fun v w'' => Ext NoB w' w'' ∧ ∃ rs, yat Y j vs v rs ∧ Sep NoB w' w'' rs ∧ rs.all (·.own) = true)) 0 h l)
    (hop1 : ∀ o, l[i1]? = some o → ∀ a w' vs Lr, Fr n ds m a → (∀ i ∈ dl.getD i1 [], i_9 l.toArray a i (vs i) ∧ ∃ rs, yat Y i vs (vs i) rs ∧ (C.all (fun p => decide (p.2 ≠ i)) = true → ∀ s ∈ rs, s.p w')) → Sep X w0 w' L → Sep X w0 w' (T0 :: Lr) → OpG r P l.toArray o a w' (fun v w'' => yat Y i1 vs v [T0] ∧ Sep X w0 w'' (T0 :: Lr)))
    (hopC : AllTk l (fun j0 i0 oj => ∀ a w' vs rs0 Lr, Fr n ds m a → i_9 l.toArray a i0 (vs i0) → yat Y i0 vs (vs i0) rs0 → (∀ i ∈ dl.getD j0 [], i ≠ i0 → i_9 l.toArray a i (vs i) ∧ ∃ rs, yat Y i vs (vs i) rs ∧ (C.all (fun p => decide (p.2 ≠ i)) = true → ∀ s ∈ rs, s.p w')) → Sep X w0 w' L → Sep X w0 w' (rs0 ++ Lr) → OpG r P l.toArray oj a w' (fun v w'' => ∃ rs, yat Y j0 vs v rs ∧ Sep X w0 w'' (rs ++ Lr))) C)
    (htail : ∀ a w' vs rsf, Fr n ds m a → (∀ i, i < h → i_9 l.toArray a i (vs i) ∧ ∃ rs, yat Y i vs (vs i) rs ∧ (C.all (fun p => decide (p.2 ≠ i)) = true → rsf i = rs)) → (∀ p, p ∈ C → rsf p.2 = []) → Sep X w0 w' (catR rsf 0 h ++ L) → WL r P l.toArray Q (l.drop h) a w') :
    WC r P (.region id l.toArray true) Q a w := by
  have hok' := hok
  simp only [t_3, Bool.and_eq_true, List.all_eq_true, List.mem_range, decide_eq_true_eq] at hok'
  obtain ⟨⟨⟨⟨hback, _⟩, htl⟩, hdst⟩, hh⟩ := hok'
  simp only [depsOk, List.all_eq_true, List.mem_range, Bool.and_eq_true, decide_eq_true_eq] at hok2
  simp only [List.all_eq_true, Bool.and_eq_true, decide_eq_true_eq] at hC hi1
  simp only [List.all_eq_true, Bool.or_eq_true, Bool.and_eq_true, decide_eq_true_eq] at hC1
  have hCm : ∀ p, p ∈ C → p.2 ∈ dl.getD p.1 [] := fun p hp => by simpa using (hC p hp).2
  have hCu : ∀ p q, p ∈ C → q ∈ C → p.1 = q.1 → p = q := fun p q hp hq e => (hC1 p hp q hq).resolve_left (fun h => h.1 e)
  have hCv : ∀ p q, p ∈ C → q ∈ C → p.2 = q.2 → p = q := fun p q hp hq e => (hC1 p hp q hq).resolve_left (fun h => h.2 e)
  have hlv : ∀ {done : Nat → Bool} {i : Nat}, (C.all (fun p => decide (p.2 ≠ i)) = true) → liveC C done i := fun {done i} hc q hq e => by
    simp only [List.all_eq_true, decide_eq_true_eq] at hc
    exact absurd e (hc q hq)
  refine c_drawJ hm h (fun _ => []) hok (CEInv l h n ds m X w0 L Y C i1 T0) (fun w' he _ => ⟨hA, fun _ => undef, upd (fun _ => []) i1 [T0], (fun i _ hi => by cases hi), (fun i _ hne => upd_ne _ _ hne), fun _ => upd_same _ _ _, fun _ _ h => (by cases h), ?_⟩) (fun j o ho hj done a w' hj0 hcl hjb hI => ?_) (fun done a w' hall hI => ?_)
  · refine (hS.step he).perm ?_
    have h1 := v_5 (fun _ => ([] : List Res)) i1 [T0] rfl h 0 (Nat.zero_le _) (by omega)
    rw [catR_nil] at h1
    exact (h1.append_right L)
  · obtain ⟨hA, vs, rsf, hdone, hnot, hno1, hcon, hSep⟩ := hI
    have hoj' : (l.toArray)[j]? = some o := by simpa using ho
    have hdj : ∀ i ∈ dl.getD j [], i < h ∧ done i = true := fun i hi => by
      have h1 := hok2 j hj i hi
      exact ⟨by omega, k_4 hcl 12 _ hjb i (by simpa using h1.2)⟩
    have hjd0 : ∀ p, p ∈ C → done p.1 = true → done p.2 = true := fun p hp h0 => by
      have h1 := hok2 p.1 (hC p hp).1.1.2 p.2 (hCm p hp)
      exact k_4 hcl 12 _ (hcl p.1 h0) p.2 (by simpa using h1.2)
    have hdd : ∀ i, done i = true → ∀ k ∈ dl.getD i [], i < h → done k = true := fun i hi k hk hih =>
      k_4 hcl 12 _ (hcl i hi) k (by simpa using (hok2 i hih k hk).2)
    have hdeps : ∀ i ∈ dl.getD j [], i_9 l.toArray a i (vs i) ∧ ∃ rs, yat Y i vs (vs i) rs ∧ (C.all (fun p => decide (p.2 ≠ i)) = true → ∀ s ∈ rs, s.p w') := fun i hi => by
      obtain ⟨h1, h2⟩ := hdj i hi
      obtain ⟨h3, rs, h4, h5⟩ := hdone i h1 h2
      refine ⟨h3, rs, h4, fun hc s hs => ?_⟩
      rw [← h5 (hlv hc)] at hs
      exact hSep.mem (List.mem_append_left _ (catR_mem rsf h 0 i (Nat.zero_le _) (by omega) s hs))
    -- what has been yielded stays told
    have keepY : ∀ (v : Value) (i : Nat) (rs : List Res), i < h → done i = true → yat Y i vs (vs i) rs → yat Y i (upd vs j v) (vs i) rs := fun v i rs hi hdi hy =>
      yat_dep hdep (fun k hk => by
        have := hdd i hdi k hk hi
        rw [upd_ne _ _ (by rintro rfl; rw [hj0] at this; cases this)]) hy
    have newY : ∀ (v : Value) (rs : List Res), yat Y j vs v rs → yat Y j (upd vs j v) v rs := fun v rs hy =>
      yat_dep hdep (fun k hk => by
        have := (hdj k hk).2
        rw [upd_ne _ _ (by rintro rfl; rw [hj0] at this; cases this)]) hy
    have hdi' : ∀ i, (done i || (i == j)) = true → i ≠ j → done i = true := fun i hdi e => by
      simp only [Bool.or_eq_true, beq_iff_eq] at hdi
      exact hdi.resolve_right e
    have hlv0 : ∀ i, liveC C (fun i => done i || (i == j)) i → liveC C done i := fun i hl q hq e => by
      have := hl q hq e
      simp only [Bool.or_eq_false_iff] at this
      exact this.1
    by_cases hjj : ∃ p, p ∈ C ∧ p.1 = j
    · obtain ⟨p, hp, rfl⟩ := hjj
      have hij := (hC p hp).1.1.1
      have hne1 : p.1 ≠ i1 := hi1.2 p hp
      have hdi0 : done p.2 = true := (hdj p.2 (hCm p hp)).2
      have hlive : liveC C done p.2 := fun q hq e => by
        have := hCv q p hq hp e
        subst this; exact hj0
      obtain ⟨s1, rs0, s2, s3⟩ := hdone p.2 (hC p hp).1.2 hdi0
      have s3 := s3 hlive
      subst s3
      have hS2 : Sep X w0 w' (rsf p.2 ++ (catR (upd rsf p.2 []) 0 h ++ L)) := hSep.perm (by
        rw [← List.append_assoc]; exact ((catR_front (hC p hp).1.2).append_right L).symm)
      refine opG_mono (allTk_at hopC p hp o (by simpa using ho) a w' vs (rsf p.2) _ hA s1 s2 (fun i hi hne => hdeps i hi) hSep.right hS2) (fun v w'' hv => ?_)
      obtain ⟨rs, hy, hS3⟩ := hv
      refine ⟨fr_put hA hfree hn hoj' hj, upd vs p.1 v, upd (upd rsf p.2 []) p.1 rs, fun i hi hdi => ?_, fun i hdi hne => ?_, fun hd1 => ?_, fun q hq hd => ?_, ?_⟩
      · by_cases e : i = p.1
        · subst e; rw [upd_same]; exact ⟨slot_new hA hn hoj' hj, rs, newY v rs hy, fun _ => upd_same _ _ _⟩
        · have hd := hdi' i hdi e
          obtain ⟨h3, rs2, h4, h5⟩ := hdone i hi hd
          rw [upd_ne _ _ e]
          refine ⟨slot_put hdst hoj' hj i hi e _ h3, rs2, keepY v i rs2 hi hd h4, fun hl => ?_⟩
          have hne' : i ≠ p.2 := fun e => by
            have := hl p hp e.symm
            simp at this
          rw [upd_ne _ _ e, upd_ne _ _ hne']; exact h5 (hlv0 i hl)
      · simp only [Bool.or_eq_false_iff, beq_eq_false_iff_ne, ne_eq] at hdi
        rw [upd_ne _ _ hdi.2]
        by_cases e : i = p.2
        · subst e; exact upd_same _ _ _
        · rw [upd_ne _ _ e]; exact hnot i hdi.1 hne
      · simp only [Bool.or_eq_false_iff, beq_eq_false_iff_ne, ne_eq] at hd1
        rw [upd_ne _ _ hd1.2]
        by_cases e : i1 = p.2
        · rw [← e, hd1.1] at hdi0; cases hdi0
        · rw [upd_ne _ _ e]; exact hno1 hd1.1
      · by_cases e : q.1 = p.1
        · have := hCu q p hq hp e
          subst this
          rw [upd_ne _ _ hij, upd_same]
        · have hd' := hdi' q.1 hd e
          have h2 := hjd0 q hq hd'
          rw [upd_ne _ _ (fun e => by rw [e, hj0] at h2; cases h2)]
          by_cases e3 : q.2 = p.2
          · rw [e3]; exact upd_same _ _ _
          · rw [upd_ne _ _ e3]; exact hcon q hq hd'
      · refine hS3.perm ?_
        rw [← List.append_assoc]
        exact (v_5 (upd rsf p.2 []) p.1 rs (by rw [upd_ne _ _ (fun e => hij e.symm)]; exact hnot p.1 hj0 hne1) h 0 (Nat.zero_le _) (by omega)).append_right L
    · have hnt : ∀ p, p ∈ C → p.1 ≠ j := fun p hp e => hjj ⟨p, hp, e⟩
      have hnc : C.all (fun p => decide (p.1 ≠ j)) = true := by simp only [List.all_eq_true, decide_eq_true_eq]; exact hnt
      by_cases hji : j = i1
      · subst hji
        have hS2 : Sep X w0 w' (T0 :: (catR (upd rsf j []) 0 h ++ L)) := hSep.perm (by
          have := ((catR_front (rsf := rsf) hj).append_right L).symm
          rw [hno1 hj0] at this
          exact this)
        refine opG_mono (hop1 o ho a w' vs _ hA hdeps hSep.right hS2) (fun v w'' hv => ?_)
        obtain ⟨hy, hS3⟩ := hv
        refine ⟨fr_put hA hfree hn hoj' hj, upd vs j v, rsf, fun i hi hdi => ?_, fun i hdi hne => ?_, fun hd1 => ?_, fun q hq hd => ?_, ?_⟩
        · by_cases e : i = j
          · subst e; rw [upd_same]; exact ⟨slot_new hA hn hoj' hj, [T0], newY v _ hy, fun _ => hno1 hj0⟩
          · have hd := hdi' i hdi e
            obtain ⟨h3, rs2, h4, h5⟩ := hdone i hi hd
            rw [upd_ne _ _ e]
            exact ⟨slot_put hdst hoj' hj i hi e _ h3, rs2, keepY v i rs2 hi hd h4, fun hl => h5 (hlv0 i hl)⟩
        · simp only [Bool.or_eq_false_iff, beq_eq_false_iff_ne, ne_eq] at hdi
          exact hnot i hdi.1 hne
        · simp at hd1
        · exact hcon q hq (hdi' q.1 hd (hnt q hq))
        · refine hS3.perm ?_
          have := (catR_front (rsf := rsf) hj).append_right L
          rw [hno1 hj0] at this
          exact this
      · have hob := allOps_at h 0 l hop j o ho hj
        rw [Nat.zero_add] at hob
        refine opG_mono (hob hnc hji a w' vs hA hSep.right hdeps) (fun v w'' hv => ?_)
        obtain ⟨hext, rs, hy, hnew, hown⟩ := hv
        refine ⟨fr_put hA hfree hn hoj' hj, upd vs j v, upd rsf j rs, fun i hi hdi => ?_, fun i hdi hne => ?_, fun hd1 => ?_, fun q hq hd => ?_, ?_⟩
        · by_cases e : i = j
          · subst e; rw [upd_same]; exact ⟨slot_new hA hn hoj' hj, rs, newY v rs hy, fun _ => upd_same _ _ _⟩
          · have hd := hdi' i hdi e
            obtain ⟨h3, rs2, h4, h5⟩ := hdone i hi hd
            rw [upd_ne _ _ e, upd_ne _ _ e]
            exact ⟨slot_put hdst hoj' hj i hi e _ h3, rs2, keepY v i rs2 hi hd h4, fun hl => h5 (hlv0 i hl)⟩
        · simp only [Bool.or_eq_false_iff, beq_eq_false_iff_ne, ne_eq] at hdi
          rw [upd_ne _ _ hdi.2]; exact hnot i hdi.1 hne
        · simp only [Bool.or_eq_false_iff, beq_eq_false_iff_ne, ne_eq] at hd1
          rw [upd_ne _ _ hd1.2]; exact hno1 hd1.1
        · have hd' := hdi' q.1 hd (hnt q hq)
          have h2 := hjd0 q hq hd'
          rw [upd_ne _ _ (fun e => by rw [e, hj0] at h2; cases h2)]
          exact hcon q hq hd'
        · have h1 := hSep.y_3 hnew hown
          refine h1.perm ?_
          rw [← List.append_assoc]
          exact (v_5 rsf j rs (hnot j hj0 hji) h 0 (Nat.zero_le _) (by omega)).append_right L
  · obtain ⟨hA, vs, rsf, hdone, _, _, hcon, hSep⟩ := hI
    refine htail a w' vs rsf hA (fun i hi => ?_) (fun p hp => hcon p hp (hall p.1 (hC p hp).1.1.2)) hSep
    obtain ⟨h3, rs, h4, h5⟩ := hdone i hi (hall i hi)
    exact ⟨h3, rs, h4, fun hc => h5 (hlv hc)⟩
end
end Go.Eng

namespace Go.Eng
open Go.RowKit
section
variable {r : Option Nat} {P : Program} {o : Oper} {a : Act} {w : World}
theorem run_equalIn_pair {t : TypeId} (h : i_8 P t = true) (dp : Nat) (a b c d : Int) (w : World) : (Op.equalIn (dp + 2) t (.agg #[.int .i64 a, .int .i64 b]) (.agg #[.int .i64 c, .int .i64 d])).run P w = .ok (decide (a = c) && decide (b = d)) w := by
  unfold i_8 at h
  cases hu : P.underlying t with
  | none => rw [hu] at h; cases h
  | some u =>
    rw [hu] at h
    cases u with
    | struct fs =>
      dsimp only at h
      have hf : P.fieldsOf t = fs := by simp [Program.fieldsOf, hu]
      cases hfs : fs.toList with
      | nil => rw [hfs] at h; cases h
      | cons f l =>
        rw [hfs] at h
        match l, h, hfs with
        | [g], h, hfs =>
          simp only [Bool.and_eq_true, bne_iff_ne, beq_iff_eq, Bool.not_eq_true'] at h
          obtain ⟨⟨⟨⟨⟨⟨⟨h1, h2⟩, h3⟩, h4⟩, h5⟩, h6⟩, h7⟩, h8⟩ := h
          have hs := run_equalIn_struct (P := P) w (dp + 1) t #[.int .i64 a, .int .i64 b] #[.int .i64 c, .int .i64 d] (by rw [hf]; exact hu) h7
          rw [hs, hf, hfs]
          cases hu1 : P.underlying f.type with
          | none => rw [hu1] at h5; cases h5
          | some u1 =>
            rw [hu1] at h5
            cases u1 with
            | int k1 =>
              cases hu2 : P.underlying g.type with
              | none => rw [hu2] at h6; cases h6
              | some u2 =>
                rw [hu2] at h6
                cases u2 with
                | int k2 =>
                  have p1 : ∀ (x y : Int), (part f.type #[Value.int .i64 x, .int .i64 y] f.offset).run P w = .ok (.int .i64 x) w := fun x y => by
                    rw [h3]; simp [part, isAgg, run_underlying hu1, Sem.run_bind, Sem.run_pure, Result.andThen_ok]
                  have p2 : ∀ (x y : Int), (part g.type #[Value.int .i64 x, .int .i64 y] g.offset).run P w = .ok (.int .i64 y) w := fun x y => by
                    rw [h4]; simp [part, isAgg, run_underlying hu2, Sem.run_bind, Sem.run_pure, Result.andThen_ok]
                  have e1 : (Op.equalIn (dp + 1) f.type (.int .i64 a) (.int .i64 c)).run P w = .ok (a == c) w := run_equalIn_int (P := P) w dp f.type .i64 k1 a c hu1
                  have e2 : (Op.equalIn (dp + 1) g.type (.int .i64 b) (.int .i64 d)).run P w = .ok (b == d) w := run_equalIn_int (P := P) w dp g.type .i64 k2 b d hu2
                  simp only [Op.eqFields, ne_eq, h1, h2, not_false_eq_true, if_true, Sem.run_bind, p1, p2, Result.andThen_ok, e1, e2]
                  by_cases hac : a = c
                  · subst hac
                    by_cases hbd : b = d
                    · subst hbd; simp [p2, e2]
                    · simp [p2, e2, hbd]
                  · simp [hac]
                | _ => cases h6
            | _ => cases h5
        | [], h, _ => cases h
        | _ :: _ :: _, h, _ => cases h
    | _ => cases h
theorem run_isAgg_two {t : TypeId} (h : i_8 P t = true) (w : World) : (isAgg t).run P w = .ok true w := by
  unfold i_8 at h
  cases hu : P.underlying t with
  | none => rw [hu] at h; cases h
  | some u =>
    rw [hu] at h
    cases u with
    | struct fs => simp [isAgg, run_underlying hu]
    | _ => cases h
theorem run_equalIn_pairs (w : World) (d : Nat) {t e n : Nat} (ht : P.underlying t = some (.array n e)) (h2 : i_8 P e = true) (hsz : ∀ w, (sizeOf e).run P w = .ok 2 w)
    (xs ys : List (Int × Int)) (hx : xs.length = n) (hy : ys.length = n) :
    (Op.equalIn (d + 3) t (.agg (pairs xs).toArray) (.agg (pairs ys).toArray)).run P w = .ok ((List.range n).all fun i => decide (xs.getD i (0, 0) = ys.getD i (0, 0))) w := by
  rw [List.range_eq_range', Op.equalIn]
  simp only [Sem.run_bind, run_underlying ht, Result.andThen_ok, hsz, Std.Legacy.Range.forIn_eq_forIn_range', Std.Legacy.Range.size, Nat.sub_zero, Nat.add_sub_cancel, Nat.div_one]
  have hl : ∀ i ∈ List.range' 0 n 1, i < n := fun i hi => by simpa using (List.mem_range'_1.1 hi).2
  generalize List.range' 0 n 1 = l at hl ⊢
  induction l with
  | nil => simp
  | cons i l ih =>
    have hi : i < n := hl i (by simp)
    have pp : ∀ (zs : List (Int × Int)), zs.length = n → (part e (pairs zs).toArray (i * 2)).run P w = .ok (.agg #[.int .i64 (zs.getD i (0, 0)).1, .int .i64 (zs.getD i (0, 0)).2]) w := fun zs hz => by
      have := h_4 (xs := zs) (i := i) (by omega)
      simp only [part, Sem.run_bind, run_isAgg_two h2, hsz, Result.andThen_ok, if_true, Sem.run_pure, List.extract_toArray, List.extract_eq_take_drop, Nat.add_sub_cancel_left, this]
    have pe : (Op.equalIn (d + 2) e (.agg #[.int .i64 (xs.getD i (0, 0)).1, .int .i64 (xs.getD i (0, 0)).2]) (.agg #[.int .i64 (ys.getD i (0, 0)).1, .int .i64 (ys.getD i (0, 0)).2])).run P w = .ok (decide (xs.getD i (0, 0) = ys.getD i (0, 0))) w := by
      rw [run_equalIn_pair h2]
      congr 1
      rw [Bool.eq_iff_iff]
      simp only [Bool.and_eq_true, decide_eq_true_eq, Prod.ext_iff]
    simp only [List.forIn_cons, Sem.run_bind, pp xs hx, pp ys hy, pe, Result.andThen_ok, List.all_cons]
    cases hb : decide (xs.getD i (0, 0) = ys.getD i (0, 0))
    · simp
    · simp only [Bool.not_true, Bool.false_eq_true, if_false, Sem.run_pure, Result.andThen_ok, Bool.true_and]
      exact ih fun j hj => hl j (by simp [hj])
theorem op_eqlAP {t e n t' : Nat} {x y : Operand} {xs ys : List (Int × Int)} {g : Bool} (ht : P.underlying t = some (.array n e)) (h2 : i_8 P e = true) (hsz : tyK P e = some (g, 2)) (hg : P.eqGuardType P.depth t = false) (ho : o.op = .binOp .eql t x y t')
    (hx : a.eval x = .agg (pairs xs).toArray) (hy : a.eval y = .agg (pairs ys).toArray) (hlx : xs.length = n) (hly : ys.length = n) :
    OpY r P o a w (fun v' w' => v' = .bool (decide (xs = ys)) ∧ w' = w) := by
  have hq : (eqGuard .eql t x y (.agg (pairs xs).toArray) (.agg (pairs ys).toArray)).run P w = .ok () w := by simp [go_sem, hg]
  have he : ((List.range n).all fun i => decide (xs.getD i (0, 0) = ys.getD i (0, 0))) = decide (xs = ys) := by
    rw [Bool.eq_iff_iff, List.all_eq_true, decide_eq_true_eq]
    constructor
    · intro h
      refine List.ext_getElem (hlx.trans hly.symm) fun i h1 h2 => ?_
      have := of_decide_eq_true (h i (List.mem_range.2 (by omega)))
      simpa [List.getD, List.getElem?_eq_getElem h1, List.getElem?_eq_getElem h2] using this
    · intro h i _; rw [h]; exact decide_eq_true rfl
  have hr : (Op.equal t (.agg (pairs xs).toArray) (.agg (pairs ys).toArray)).run P w = .ok (decide (xs = ys)) w := by
    rw [← he]; exact run_equalIn_pairs w 9997 ht h2 (run_sizeOf hsz) xs ys hlx hly
  exact d_2 (v := .bool (decide (xs = ys))) (by rw [ho]; rfl) (by
    simp only [execOp, ho, hx, hy, Sem.run_bind, hq, Result.andThen_ok, binOp, hr, Sem.run_pure]) ⟨rfl, rfl⟩
theorem pairs_takeH (s : List (Int × Int)) (h : Nat) : (pairs s).take (h * 2) = pairs (s.take h) := by
  induction s generalizing h with
  | nil => cases h <;> rfl
  | cons x s ih =>
    cases h with
    | zero => rfl
    | succ h =>
      show (.int .i64 x.1 :: .int .i64 x.2 :: pairs s).take ((h + 1) * 2) = .int .i64 x.1 :: .int .i64 x.2 :: pairs (s.take h)
      rw [show (h + 1) * 2 = h * 2 + 1 + 1 by omega, List.take_succ_cons, List.take_succ_cons, ih]
theorem s_1 {xs : List (Int × Int)} {i : Nat} (h : i < xs.length) : ((pairs xs).drop (0 + i * 2)).take 2 = [.int .i64 (xs.getD i (0, 0)).1, .int .i64 (xs.getD i (0, 0)).2] := by rw [Nat.zero_add]; exact h_4 h
theorem pairs_setZ (xs : List (Int × Int)) (i : Nat) (a b : Int) : r_3 (pairs xs) (0 + i * 2) [.int .i64 a, .int .i64 b] = pairs (xs.set i (a, b)) := by rw [Nat.zero_add]; exact pairs_set xs i (a, b)
end
end Go.Eng

namespace Go.Eng
section
variable {r : Option Nat} {P : Program} {o : Oper} {a : Act} {w w0 : World} {X : Nat → Prop} {L : List Res} {y : List Res → Value → Prop}
end
end Go.Eng
