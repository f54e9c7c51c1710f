/-
  Lists of structs in memory, told by the data of each; bools; bits of numbers of 64 bits.
  Plates, cuts and pieces: what the functions compute; what pieces keep.
  Cuts that words pick, and uses of the pieces behind them.
  Plans for lots: what results say of them.
-/
import Derived.Test.YtphkmnaohimdbaaEnga
import Derived.Test.YtphkmnaohimdbaaProg
import Derived.Shelf.Abstract
set_option linter.unusedSimpArgs false
set_option linter.unusedVariables false
namespace Go.Top
open Go.RowKit Go.Eng
section
variable {α : Type} {f : α → List Value} {sz : Nat} {d : α} {xs : List α} {i k : Nat}
def recC (f : α → List Value) (xs : List α) : List Value := xs.flatMap f
theorem rec_append (f : α → List Value) (xs ys : List α) : recC f (xs ++ ys) = recC f xs ++ recC f ys := by simp [recC]
theorem rec_one1 (f : α → List Value) (x : α) : recC f [x] = f x := by simp [recC]
theorem g_9 (f : α → List Value) (xs : List α) (x : α) : recC f xs ++ f x = recC f (xs ++ [x]) := by rw [rec_append, rec_one1]
theorem rec_flat (f : α → List Value) (d : α) (xs : List α) : recC f xs = r_1 xs.length (fun i => f (xs.getD i d)) := by
  unfold recC r_1
  have e : xs = (List.range xs.length).map (fun i => xs.getD i d) := by
    refine List.ext_getElem (by simp) fun i h1 h2 => ?_
    simp [List.getD, List.getElem?_eq_getElem h1]
  conv => lhs; rw [e]
  rw [List.flatMap_map]
theorem rec_all (d : α) (hf : ∀ a, (f a).length = sz) (h : i < xs.length) : ((recC f xs).drop (i * sz)).take sz = f (xs.getD i d) := by
  rw [rec_flat f d]; exact flatI_all (fun i => hf _) h
theorem rec_at (d : α) (hf : ∀ a, (f a).length = sz) (h : i < xs.length) (hk : k < sz) : (recC f xs)[i * sz + k]? = (f (xs.getD i d))[k]? := by
  rw [rec_flat f d]; exact flatI_at (fun i => hf _) h hk
theorem rec_all1 (h : ∀ a, (f a).all (·.oneCell') = true) (xs : List α) : (recC f xs).all (·.oneCell') = true := by
  induction xs with
  | nil => rfl
  | cons x xs ih => rw [show recC f (x :: xs) = f x ++ recC f xs from rfl, List.all_append, ih, h]; rfl
end
section
variable {a : Act} {i1 i2 i3 i4 i5 i6 : Nat} {x1 x2 x3 x4 x5 x6 : Operand} {v1 v2 v3 v4 v5 v6 : Value}
theorem pv6 (h1 : a.eval x1 = v1) (h2 : a.eval x2 = v2) (h3 : a.eval x3 = v3) (h4 : a.eval x4 = v4) (h5 : a.eval x5 = v5) (h6 : a.eval x6 = v6) : (#[(i1, x1), (i2, x2), (i3, x3), (i4, x4), (i5, x5), (i6, x6)].map fun (i, x) => (i, a.eval x)) = #[(i1, v1), (i2, v2), (i3, v3), (i4, v4), (i5, v5), (i6, v6)] := by simp [h1, h2, h3, h4, h5, h6]
end
structure Quad where
  x : Int
  y : Int
  w : Int
  l : Int
deriving DecidableEq
def q0 : Quad := ⟨0, 0, 0, 0⟩
def d_5 (q : Quad) : List Value := [.int .i64 q.x, .int .i64 q.y, .int .i64 q.w, .int .i64 q.l]
structure CutD where
  piece : Int
  across : Bool
  pos : Int
deriving DecidableEq
def c0 : CutD := ⟨0, false, 0⟩
def cutC (c : CutD) : List Value := [.int .i64 c.piece, .bool c.across, .int .i64 c.pos]
structure p_1 where
  w : Int
  l : Int
  turn : Bool
  worth : Int
  xl : Int
  xh : Int
  yl : Int
  yh : Int
deriving DecidableEq
def w0 : p_1 := ⟨0, 0, false, 0, 0, 0, 0, 0⟩
def d_6 (d : p_1) : List Value := [.int .i64 d.w, .int .i64 d.l, .bool d.turn, .int .i64 d.worth, .int .i64 d.xl, .int .i64 d.xh, .int .i64 d.yl, .int .i64 d.yh]
structure g_1 where
  take : Int
  acc : Int
  rej : Int
deriving DecidableEq
def s0 : g_1 := ⟨0, 0, 0⟩
def d_9 (s : g_1) : List Value := [.int .i64 s.take, .int .i64 s.acc, .int .i64 s.rej]
theorem quadC_len (x : Quad) : (d_5 x).length = 4 := rfl
theorem cutC_len (x : CutD) : (cutC x).length = 3 := rfl
theorem cutC_one (x : CutD) : (cutC x).all (·.oneCell') = true := rfl
theorem wantC_len (x : p_1) : (d_6 x).length = 8 := rfl
theorem stageC_len (x : g_1) : (d_9 x).length = 3 := rfl
section
variable {i : Nat}
theorem k_6 {xs : List Quad} (h : i < xs.length) : ((recC d_5 xs).drop (i * 4)).take 4 = [.int .i64 (xs.getD i q0).x, .int .i64 (xs.getD i q0).y, .int .i64 (xs.getD i q0).w, .int .i64 (xs.getD i q0).l] := rec_all q0 quadC_len h
theorem cut_at0 {xs : List CutD} (h : i < xs.length) : (recC cutC xs)[i * 3]? = some (.int .i64 (xs.getD i c0).piece) := rec_at (k := 0) c0 cutC_len h (by decide)
theorem cut_at1 {xs : List CutD} (h : i < xs.length) : (recC cutC xs)[i * 3 + 1]? = some (.bool (xs.getD i c0).across) := rec_at (k := 1) c0 cutC_len h (by decide)
theorem cut_at2 {xs : List CutD} (h : i < xs.length) : (recC cutC xs)[i * 3 + 2]? = some (.int .i64 (xs.getD i c0).pos) := rec_at (k := 2) c0 cutC_len h (by decide)
theorem cut_all {xs : List CutD} (h : i < xs.length) : ((recC cutC xs).drop (i * 3)).take 3 = [.int .i64 (xs.getD i c0).piece, .bool (xs.getD i c0).across, .int .i64 (xs.getD i c0).pos] := rec_all c0 cutC_len h
theorem cut_one (xs : List CutD) : (recC cutC xs).all (·.oneCell') = true := rec_all1 cutC_one xs
theorem n_6 {xs : List p_1} (h : i < xs.length) : ((recC d_6 xs).drop (i * 8)).take 8 = [.int .i64 (xs.getD i w0).w, .int .i64 (xs.getD i w0).l, .bool (xs.getD i w0).turn, .int .i64 (xs.getD i w0).worth, .int .i64 (xs.getD i w0).xl, .int .i64 (xs.getD i w0).xh, .int .i64 (xs.getD i w0).yl, .int .i64 (xs.getD i w0).yh] := rec_all w0 wantC_len h
theorem stage_at1 {xs : List g_1} (h : i < xs.length) : (recC d_9 xs)[i * 3 + 1]? = some (.int .i64 (xs.getD i s0).acc) := rec_at (k := 1) s0 stageC_len h (by decide)
theorem stage_at2 {xs : List g_1} (h : i < xs.length) : (recC d_9 xs)[i * 3 + 2]? = some (.int .i64 (xs.getD i s0).rej) := rec_at (k := 2) s0 stageC_len h (by decide)
theorem stage_all {xs : List g_1} (h : i < xs.length) : ((recC d_9 xs).drop (i * 3)).take 3 = [.int .i64 (xs.getD i s0).take, .int .i64 (xs.getD i s0).acc, .int .i64 (xs.getD i s0).rej] := rec_all s0 stageC_len h
end
def d_1 (l : List Bool) : List Value := l.map Value.bool
theorem h_6 {l : List Bool} {i : Nat} (h : i < l.length) : (d_1 l)[i * 1]? = some (.bool (l.getD i false)) := by
  simp [d_1, List.getD, h]
theorem n_1 (l : List Bool) : (d_1 l).length = l.length := by simp [d_1]
theorem boolC_one (l : List Bool) : (d_1 l).all (·.oneCell') = true := by
  unfold d_1; rw [List.all_map]; exact List.all_eq_true.2 fun _ _ => rfl
theorem g_4 {α : Type} (xs : List α) (x : α) : xs.length + 1 = (xs ++ [x]).length := by simp
theorem boolC_snoc (xs : List Bool) (b : Bool) : d_1 xs ++ [Value.bool b] = d_1 (xs ++ [b]) := by simp [d_1]
theorem mk_one (v : Value) (n : Nat) : (madeCells #[v] (n * 1)).toList = List.replicate n v := by
  unfold madeCells
  apply List.ext_getElem (by simp)
  intro i h1 h2
  simp [Nat.mod_one]
theorem mk_bool (n : Nat) : (madeCells (Value.bool false).cells (n * 1)).toList = d_1 (List.replicate n false) := by
  rw [show (Value.bool false).cells = #[Value.bool false] from rfl, mk_one]; simp [d_1]
theorem ret_int {k : IntKind} {a b : Int} (h : a = b) : Value.int k a = Value.int k b := by rw [h]
theorem callsB {P : Program} {f : FuncId} {args : Array Value} {w : World} {b' : Bool} (k : Calls P f args w (Ret fun v w' => v = .bool b' ∧ Ext NoB w w')) (b : Bool) (h : b' = b) : Calls P f args w (Ret fun v w' => v = .bool b ∧ Ext NoB w w') := by subst h; exact k
theorem getD_mem' {α : Type} {l : List α} {d : α} {i : Nat} (h : i < l.length) : l.getD i d ∈ l := by
  rw [List.getD, List.getElem?_eq_getElem h]; exact List.getElem_mem h
theorem o_1 {α : Type} {l m : List α} {d : α} {i : Nat} : (l ++ m).getD i d = if i < l.length then l.getD i d else m.getD (i - l.length) d := by
  split
  · rename_i h; simp [List.getD, List.getElem?_append_left h]
  · rename_i h; simp [List.getD, List.getElem?_append_right (by omega : l.length ≤ i)]
theorem getD_set2 {α : Type} {l : List α} {d x : α} {i j : Nat} (h : i < l.length) : (l.set i x).getD j d = if j = i then x else l.getD j d := by
  by_cases e : j = i
  · subst e; rw [if_pos rfl]; simp [List.getD, h]
  · rw [if_neg e]; simp [List.getD, List.getElem?_set_ne (fun e' => e e'.symm)]
end Go.Top

namespace Go.Top
open Go.RowKit Go.Eng
def inB (n lo hi : Int) : Bool := decide (lo ≤ n) && decide (n ≤ hi)
theorem g_3 {n lo hi : Int} : inB n lo hi = true ↔ lo ≤ n ∧ n ≤ hi := by unfold inB; simp only [Bool.and_eq_true, decide_eq_true_eq]
structure g_2 where
  wide : Int
  long : Int
  saw : Int
  wants : List p_1
structure WantV (d : p_1) : Prop where
  w : 1 ≤ d.w ∧ d.w ≤ 8
  l : 1 ≤ d.l ∧ d.l ≤ 8
  worth : 0 ≤ d.worth ∧ d.worth ≤ 1000
  x : 0 ≤ d.xl ∧ d.xl ≤ d.xh ∧ d.xh ≤ 7
  y : 0 ≤ d.yl ∧ d.yl ≤ d.yh ∧ d.yh ≤ 7
structure n_0 (p : g_2) : Prop where
  wide : 1 ≤ p.wide ∧ p.wide ≤ 8
  long : 1 ≤ p.long ∧ p.long ≤ 8
  saw : 0 ≤ p.saw ∧ p.saw ≤ 2
  few : p.wants.length ≤ 4
  want : ∀ i, i < p.wants.length → WantV (p.wants.getD i w0)
structure n_7 (q : Quad) : Prop where
  x : 0 ≤ q.x ∧ q.x ≤ 8
  y : 0 ≤ q.y ∧ q.y ≤ 8
  w : 0 ≤ q.w ∧ q.w ≤ 8
  l : 0 ≤ q.l ∧ q.l ≤ 8
  xw : q.x + q.w ≤ 8
  yl : q.y + q.l ≤ 8
def farF (q : Quad) (a : Bool) : Int := if a = true then q.l else q.w
def d_4 (q : Quad) (a : Bool) (fr many : Int) : Quad := if a = true then ⟨q.x, q.y + fr, q.w, many⟩ else ⟨q.x + fr, q.y, many, q.l⟩
def nopart (far pos saw : Int) : Prop := pos < 0 ∨ far - pos - saw < 0 ∨ (saw = 0 ∧ (pos = 0 ∨ far - pos - saw = 0))
instance (far pos saw : Int) : Decidable (nopart far pos saw) := inferInstanceAs (Decidable (_ ∨ _ ∨ _))
def a_7 (q : Quad) (a : Bool) (pos saw : Int) : List Quad :=
  if nopart (farF q a) pos saw then [] else (if 0 < pos then [d_4 q a 0 pos] else []) ++ (if 0 < farF q a - pos - saw then [d_4 q a (pos + saw) (farF q a - pos - saw)] else [])
section
variable {q : Quad} {a : Bool} {pos saw : Int}
theorem far_bd (h : n_7 q) (a : Bool) : 0 ≤ farF q a ∧ farF q a ≤ 8 := by
  unfold farF; have := h.w; have := h.l; split <;> omega
theorem part_V (h : n_7 q) {fr many : Int} (h0 : 0 ≤ fr) (h1 : 0 ≤ many) (h2 : fr + many ≤ farF q a) : n_7 (d_4 q a fr many) := by
  have hx := h.x; have hy := h.y; have hw := h.w; have hl := h.l; have a1 := h.xw; have a2 := h.yl
  unfold farF at h2; unfold d_4
  split
  · rename_i e; rw [if_pos e] at h2
    exact ⟨hx, by dsimp only; omega, hw, by dsimp only; omega, a1, by dsimp only; omega⟩
  · rename_i e; rw [if_neg e] at h2
    exact ⟨by dsimp only; omega, hy, by dsimp only; omega, hl, by dsimp only; omega, a2⟩
theorem parts_len : (a_7 q a pos saw).length ≤ 2 := by
  unfold a_7; split
  · simp
  · rw [List.length_append]; split <;> split <;> simp
theorem parts_V (h : n_7 q) (hs : 0 ≤ saw) : ∀ r ∈ a_7 q a pos saw, n_7 r := by
  intro r hr
  unfold a_7 at hr
  split at hr
  · cases hr
  · rename_i hn
    unfold nopart at hn
    rcases List.mem_append.1 hr with hr | hr
    · split at hr
      · rw [List.mem_singleton.1 hr]; exact part_V h (Int.le_refl _) (by omega) (by omega)
      · cases hr
    · split at hr
      · rw [List.mem_singleton.1 hr]; exact part_V h (by omega) (by omega) (by omega)
      · cases hr
theorem f_0 (h : nopart (farF q a) pos saw) : a_7 q a pos saw = [] := if_pos h
theorem l_3 (h : ¬ nopart (farF q a) pos saw) (h1 : 0 < pos) (h2 : 0 < farF q a - pos - saw) : a_7 q a pos saw = [d_4 q a 0 pos, d_4 q a (pos + saw) (farF q a - pos - saw)] := by unfold a_7; rw [if_neg h, if_pos h1, if_pos h2]; rfl
theorem k_5 (h : ¬ nopart (farF q a) pos saw) (h1 : 0 < pos) (h2 : ¬ 0 < farF q a - pos - saw) : a_7 q a pos saw = [d_4 q a 0 pos] := by unfold a_7; rw [if_neg h, if_pos h1, if_neg h2]; rfl
theorem k_4 (h : ¬ nopart (farF q a) pos saw) (h1 : ¬ 0 < pos) (h2 : 0 < farF q a - pos - saw) : a_7 q a pos saw = [d_4 q a (pos + saw) (farF q a - pos - saw)] := by unfold a_7; rw [if_neg h, if_neg h1, if_pos h2]; rfl
theorem f_6 (h : ¬ nopart (farF q a) pos saw) (h1 : ¬ 0 < pos) (h2 : ¬ 0 < farF q a - pos - saw) : a_7 q a pos saw = [] := by unfold a_7; rw [if_neg h, if_neg h1, if_neg h2]; rfl
end
abbrev PCs := List Quad × List Bool
def r_8 (st : PCs) (saw : Int) (c : CutD) : Prop := (0 ≤ c.piece ∧ c.piece ≤ (st.1.length : Int) - 1) ∧ st.2.getD c.piece.toNat false = false ∧ a_7 (st.1.getD c.piece.toNat q0) c.across c.pos saw ≠ []
instance (st : PCs) (saw : Int) (c : CutD) : Decidable (r_8 st saw c) := inferInstanceAs (Decidable (_ ∧ _ ∧ _))
def nextPC (st : PCs) (saw : Int) (c : CutD) : PCs := (st.1 ++ a_7 (st.1.getD c.piece.toNat q0) c.across c.pos saw, st.2.set c.piece.toNat true ++ List.replicate (a_7 (st.1.getD c.piece.toNat q0) c.across c.pos saw).length false)
def h_8 (p : g_2) (cuts : List CutD) : Nat → Option PCs
  | 0 => some ([⟨0, 0, p.wide, p.long⟩], [false])
  | k + 1 => (h_8 p cuts k).bind fun st => if r_8 st p.saw (cuts.getD k c0) then some (nextPC st p.saw (cuts.getD k c0)) else none
def l_7 (p : g_2) (cuts : List CutD) : Option PCs := h_8 p cuts cuts.length
section
variable {p : g_2} {cuts : List CutD} {k : Nat} {ps : List Quad} {cs : List Bool}
theorem pieces_yes {st : PCs} (h : h_8 p cuts k = some st) (h2 : r_8 st p.saw (cuts.getD k c0)) : h_8 p cuts (k + 1) = some (nextPC st p.saw (cuts.getD k c0)) := by
  rw [h_8, h, Option.bind_some, if_pos h2]
theorem pieces_no {st : PCs} (h : h_8 p cuts k = some st) (h2 : ¬ r_8 st p.saw (cuts.getD k c0)) : h_8 p cuts (k + 1) = none := by
  rw [h_8, h, Option.bind_some, if_neg h2]
theorem pieces_stay {n : Nat} (h : h_8 p cuts k = none) (hn : k ≤ n) : h_8 p cuts n = none := by
  induction n with
  | zero => obtain rfl : k = 0 := by omega
            exact h
  | succ n ih =>
    rcases Nat.eq_or_lt_of_le hn with e | e
    · subst e; exact h
    · rw [h_8, ih (by omega)]; rfl
theorem pieces_fail {st : PCs} (h : h_8 p cuts k = some st) (hk : k < cuts.length) (h2 : ¬ r_8 st p.saw (cuts.getD k c0)) : l_7 p cuts = none := pieces_stay (pieces_no h h2) hk
theorem ok_n1 {st : PCs} {saw : Int} {c : CutD} (h : inB c.piece 0 ((st.1.length : Int) - 1) = false) : ¬ r_8 st saw c := fun g => by
  rw [g_3.2 g.1] at h; cases h
theorem ok_n2 {st : PCs} {saw : Int} {c : CutD} (h : st.2.getD c.piece.toNat false = true) : ¬ r_8 st saw c := fun g => by rw [g.2.1] at h; cases h
theorem ok_n3 {st : PCs} {saw : Int} {c : CutD} (h : ((a_7 (st.1.getD c.piece.toNat q0) c.across c.pos saw).length : Int) = 0) : ¬ r_8 st saw c := fun g => g.2.2 (List.eq_nil_of_length_eq_zero (by omega))
theorem ok_y {st : PCs} {saw : Int} {c : CutD} (h1 : inB c.piece 0 ((st.1.length : Int) - 1) = true) (h2 : st.2.getD c.piece.toNat false = false) (h3 : ¬ ((a_7 (st.1.getD c.piece.toNat q0) c.across c.pos saw).length : Int) = 0) : r_8 st saw c :=
  ⟨g_3.1 h1, h2, fun e => h3 (by rw [e]; rfl)⟩
structure PCV (k : Nat) (st : PCs) : Prop where
  same : st.2.length = st.1.length
  pos : 1 ≤ st.1.length
  few : st.1.length ≤ 2 * k + 1
  quad : ∀ i, i < st.1.length → n_7 (st.1.getD i q0)
theorem PCV.next {st : PCs} {c : CutD} (h : PCV k st) (hp : 0 ≤ p.saw) (h2 : r_8 st p.saw c) : PCV (k + 1) (nextPC st p.saw c) := by
  have hl := parts_len (q := st.1.getD c.piece.toNat q0) (a := c.across) (pos := c.pos) (saw := p.saw)
  have hi := h2.1
  have hs := h.same
  have hf := h.few
  have hpo := h.pos
  refine ⟨?_, ?_, ?_, ?_⟩
  · show (st.2.set _ true ++ List.replicate _ false).length = (st.1 ++ _).length
    rw [List.length_append, List.length_append, List.length_set, List.length_replicate, hs]
  · show 1 ≤ (st.1 ++ _).length
    rw [List.length_append]; omega
  · show (st.1 ++ _).length ≤ _
    rw [List.length_append]; omega
  · intro i hi'
    have hi' : i < (st.1 ++ a_7 (st.1.getD c.piece.toNat q0) c.across c.pos p.saw).length := hi'
    show n_7 ((st.1 ++ _).getD i q0)
    rw [o_1]
    split
    · rename_i hlt; exact h.quad i hlt
    · rename_i hge
      rw [List.length_append] at hi'
      exact parts_V (h.quad _ (by omega)) hp _ (getD_mem' (by omega))
theorem PCV.zero (hV : n_0 p) : PCV 0 ([⟨0, 0, p.wide, p.long⟩], [false]) := by
  have a := hV.wide; have b := hV.long
  refine ⟨rfl, Nat.le_refl _, Nat.le_refl _, fun i hi => ?_⟩
  have hi : i < 1 := hi
  obtain rfl : i = 0 := by omega
  show n_7 (⟨0, 0, p.wide, p.long⟩ : Quad)
  exact ⟨by dsimp only; omega, by dsimp only; omega, by dsimp only; omega, by dsimp only; omega, by dsimp only; omega, by dsimp only; omega⟩
theorem pieces_V (hV : n_0 p) : ∀ k st, h_8 p cuts k = some st → PCV k st
  | 0, st, h => by
    rw [h_8] at h; cases h; exact PCV.zero hV
  | k + 1, st, h => by
    rw [h_8] at h
    cases hu : h_8 p cuts k with
    | none => rw [hu] at h; cases h
    | some st0 =>
      rw [hu, Option.bind_some] at h
      split at h
      · rename_i h2
        cases h
        exact (pieces_V hV k st0 hu).next hV.saw.1 h2
      · cases h
end
def r_6 (l : List Int) (n : Int) : Int := fidx (fun i => decide (n = l.getD i 0)) l.length
def i_1 (d : p_1) (q : Quad) : Bool := ((decide (q.w = d.w) && decide (q.l = d.l)) || (d.turn && (decide (q.w = d.l) && decide (q.l = d.w)))) && (decide (d.xl ≤ q.x) && (decide (q.x + q.w - 1 ≤ d.xh) && (decide (d.yl ≤ q.y) && decide (q.y + q.l - 1 ≤ d.yh))))
def covB (q : Quad) (ux uy : Int) : Bool := inB (ux - q.x) 0 (q.w - 1) && inB (uy - q.y) 0 (q.l - 1)
def p_8 (ps : List Quad) (cs : List Bool) (ux uy : Int) : Int := fidx (fun i => !cs.getD i false && covB (ps.getD i q0) ux uy) ps.length
def wanF (ps : List Quad) (cs : List Bool) (uses : List Int) (ux uy : Int) : Int := if p_8 ps cs ux uy = -1 then -1 else r_6 uses (p_8 ps cs ux uy)
theorem fidx_bd (p : Nat → Bool) (n : Nat) : -1 ≤ fidx p n ∧ fidx p n < (n : Int) := by
  unfold fidx
  cases h : (List.range n).find? p with
  | none => dsimp only; omega
  | some i =>
    have := List.mem_range.1 (List.mem_of_find?_eq_some h)
    dsimp only; omega
theorem wan_lt (ps : List Quad) (cs : List Bool) (uses : List Int) (ux uy : Int) : -1 ≤ wanF ps cs uses ux uy ∧ wanF ps cs uses ux uy < (uses.length : Int) := by
  unfold wanF
  split
  · omega
  · exact fidx_bd _ _
structure PlanOk (p : g_2) (cuts : List CutD) (uses : List Int) (ps : List Quad) (cs : List Bool) : Prop where
  done : l_7 p cuts = some (ps, cs)
  few : cuts.length ≤ 40
  pos : ∀ i, i < cuts.length → -1000 ≤ (cuts.getD i c0).pos ∧ (cuts.getD i c0).pos ≤ 1000
  ulen : uses.length = p.wants.length
  use : ∀ i, i < uses.length → uses.getD i 0 = -1 ∨ ((0 ≤ uses.getD i 0 ∧ uses.getD i 0 ≤ (ps.length : Int) - 1) ∧ cs.getD (uses.getD i 0).toNat false = false ∧ i_1 (p.wants.getD i w0) (ps.getD (uses.getD i 0).toNat q0) = true)
  once : ∀ i j, i < j → j < uses.length → uses.getD i 0 = uses.getD j 0 → uses.getD j 0 = -1
end Go.Top
namespace Go.Top
theorem want_V {d : p_1} (h1 : inB d.w 1 8 = true) (h2 : inB d.l 1 8 = true) (h3 : inB d.worth 0 1000 = true) (h4 : inB d.xl 0 d.xh = true) (h5 : ¬ 7 < d.xh) (h6 : inB d.yl 0 d.yh = true) (h7 : ¬ 7 < d.yh) : WantV d := by
  rw [g_3] at h1 h2 h3 h4 h6
  exact ⟨h1, h2, h3, by omega, by omega⟩
def hasB (lo hi fr many : Int) : Bool := decide (lo ≤ fr) && decide (fr + many - 1 ≤ hi)
end Go.Top

namespace Go.Top
open Go.RowKit Go.Eng
theorem words_at1 {ws : List Int} {i : Nat} (h : i < ws.length) : (ws.map (Value.int .u16))[i * 1]? = some (.int .u16 (ws.getD i 0)) := by
  simp [List.getD, h]
def WordsV (ws : List Int) : Prop := ∀ x ∈ ws, 0 ≤ x ∧ x ≤ 65535
theorem word_bd {ws : List Int} (h : WordsV ws) {i : Nat} (hi : i < ws.length) : 0 ≤ ws.getD i 0 ∧ ws.getD i 0 ≤ 65535 := h _ (getD_mem' hi)
def CutB (cuts : List CutD) : Prop := ∀ i, i < cuts.length → -1000 ≤ (cuts.getD i c0).pos ∧ (cuts.getD i c0).pos ≤ 1000
theorem CutB.nil : CutB [] := fun _ h => absurd h (Nat.not_lt_zero _)
theorem CutB.snoc {cuts : List CutD} (h : CutB cuts) {c : CutD} (hc : -1000 ≤ c.pos ∧ c.pos ≤ 1000) : CutB (cuts ++ [c]) := fun i hi => by
  rw [o_1]
  split
  · rename_i h1; exact h i h1
  · rename_i h1
    rw [List.length_append, List.length_singleton] at hi
    rw [show i - cuts.length = 0 by omega]; exact hc
theorem rem_bd {y d : Int} (h0 : 0 ≤ y) (hd : 0 < d) : 0 ≤ y.tmod d ∧ y.tmod d < d := ⟨Int.tmod_nonneg _ h0, by rw [Int.tmod_eq_emod_of_nonneg h0]; exact Int.emod_lt_of_pos _ hd⟩
theorem quo_bd {y : Int} (h0 : 0 ≤ y) (h1 : y ≤ 65535) {d : Int} (hd : 0 < d) : 0 ≤ y.tdiv d ∧ y.tdiv d ≤ 65535 := by
  rw [Int.tdiv_eq_ediv_of_nonneg h0]
  exact ⟨Int.ediv_nonneg h0 (Int.le_of_lt hd), Int.le_trans (Int.ediv_le_self _ h0) h1⟩
structure UseI (p : g_2) (ps : List Quad) (cs : List Bool) (us : List Int) (n : Nat) : Prop where
  len : us.length = n
  use : ∀ i, i < n → us.getD i 0 = -1 ∨ ((0 ≤ us.getD i 0 ∧ us.getD i 0 ≤ (ps.length : Int) - 1) ∧ cs.getD (us.getD i 0).toNat false = false ∧ i_1 (p.wants.getD i w0) (ps.getD (us.getD i 0).toNat q0) = true)
  once : ∀ i j, i < j → j < n → us.getD i 0 = us.getD j 0 → us.getD j 0 = -1
section
variable {p : g_2} {ps : List Quad} {cs : List Bool} {us : List Int} {n i : Nat}
theorem UseI.zero : UseI p ps cs [] 0 := ⟨rfl, fun _ h => absurd h (Nat.not_lt_zero _), fun _ _ _ h => absurd h (Nat.not_lt_zero _)⟩
theorem n_3 {us : List Int} {x : Int} {i : Nat} (h : i < us.length) : (us ++ [x]).getD i 0 = us.getD i 0 := by rw [o_1, if_pos h]
theorem getD_snoc_eq {us : List Int} {x : Int} {i : Nat} (h : i = us.length) : (us ++ [x]).getD i 0 = x := by rw [o_1, if_neg (by omega), show i - us.length = 0 by omega]; rfl
theorem UseI.more (h : UseI p ps cs us n) : UseI p ps cs (us ++ [-1]) (n + 1) := by
  have hl := h.len
  refine ⟨by rw [List.length_append, hl]; rfl, fun i hi => ?_, fun i j h1 h2 h3 => ?_⟩
  · rcases Nat.lt_succ_iff_lt_or_eq.1 hi with e | e
    · rw [n_3 (by omega)]; exact h.use i e
    · rw [getD_snoc_eq (by omega)]; exact .inl rfl
  · rcases Nat.lt_succ_iff_lt_or_eq.1 h2 with e | e
    · rw [n_3 (by omega)]
      rw [n_3 (by omega), n_3 (by omega)] at h3
      exact h.once i j h1 e h3
    · rw [getD_snoc_eq (by omega)]
theorem used_none {l : List Int} {n : Int} (h : r_6 l n < 0) : ∀ i, i < l.length → l.getD i 0 ≠ n := by
  intro i hi e
  unfold r_6 at h
  have h2 := fidx_any (fun i => decide (n = l.getD i 0)) l.length
  rw [decide_eq_false (by omega)] at h2
  have := List.any_eq_false.1 h2.symm i (List.mem_range.2 hi)
  simp only [decide_eq_true_eq] at this
  exact this e.symm
theorem UseI.put (h : UseI p ps cs us (n + 1)) (hi : i < ps.length) (hc : cs.getD i false = false) (hf : i_1 (p.wants.getD n w0) (ps.getD i q0) = true) (hu : r_6 (us.take n) (i : Int) < 0) : UseI p ps cs (us.set n (i : Int)) (n + 1) := by
  have hl := h.len
  refine ⟨by rw [List.length_set]; exact hl, fun j hj => ?_, fun j k h1 h2 h3 => ?_⟩
  · rw [getD_set2 (by omega)]
    split
    · rename_i e; subst e
      exact .inr ⟨by omega, by rw [Int.toNat_natCast]; exact hc, by rw [Int.toNat_natCast]; exact hf⟩
    · exact h.use j hj
  · rw [getD_set2 (by omega), getD_set2 (by omega), if_neg (by omega)] at h3
    rw [getD_set2 (by omega)]
    split at h3
    · rename_i e
      subst e
      exfalso
      refine used_none hu j (by rw [List.length_take]; omega) ?_
      rw [← h3]
      simp only [List.getD, List.getElem?_take_of_lt h1]
    · rename_i e
      rw [if_neg e]; exact h.once j k h1 h2 h3
end
theorem ints_cutHi (r : List Int) (n : Nat) : (((ints r).drop (0 * 1)).take ((n - 0) * 1)) = ints (r.take n) := by
  simp [ints, List.map_take]
end Go.Top

namespace Go.Top
open Go.RowKit Go.Eng
structure PlD where
  lot : Int
  stages : List g_1
def tknU (ss : List g_1) : Nat → Int
  | 0 => 0
  | k + 1 => tknU ss k + (ss.getD k s0).take
def p_9 (ss : List g_1) : Nat → g_1
  | 0 => ⟨0, -1, 0⟩
  | k + 1 => ss.getD k s0
structure StV (q : PlD) (i : Nat) : Prop where
  take : 1 ≤ (q.stages.getD i s0).take ∧ (q.stages.getD i s0).take ≤ 30
  fits : tknU q.stages (i + 1) ≤ q.lot
  acc : -1 ≤ (q.stages.getD i s0).acc ∧ (q.stages.getD i s0).acc ≤ 30
  rej : (q.stages.getD i s0).acc < (q.stages.getD i s0).rej ∧ (q.stages.getD i s0).rej ≤ tknU q.stages (i + 1) + 1
  rise : (p_9 q.stages i).acc ≤ (q.stages.getD i s0).acc ∧ (p_9 q.stages i).rej ≤ (q.stages.getD i s0).rej
  last : i + 1 = q.stages.length → (q.stages.getD i s0).rej = (q.stages.getD i s0).acc + 1
structure PlV (q : PlD) : Prop where
  few : q.stages.length ≤ 3
  one : 1 ≤ q.stages.length
  lot : 1 ≤ q.lot ∧ q.lot ≤ 30
  st : ∀ i, i < q.stages.length → StV q i
def i_2 (s : g_1) (bad : Int) : Int := if bad ≤ s.acc then 1 else if s.rej ≤ bad then 2 else 3
def cntT (r : List Bool) (n : Nat) : Nat := (r.take n).count true
theorem cnt_y {r : List Bool} {n : Nat} (h : n < r.length) (h2 : r.getD n false = true) : cntT r n + 1 = cntT r (n + 1) := by
  unfold cntT
  rw [List.take_add_one, List.getElem?_eq_getElem h, Option.toList_some, List.count_append]
  rw [List.getD, List.getElem?_eq_getElem h, Option.getD_some] at h2
  rw [h2]; rfl
theorem cnt_n {r : List Bool} {n : Nat} (h : n < r.length) (h2 : r.getD n false = false) : cntT r n = cntT r (n + 1) := by
  unfold cntT
  rw [List.take_add_one, List.getElem?_eq_getElem h, Option.toList_some, List.count_append]
  rw [List.getD, List.getElem?_eq_getElem h, Option.getD_some] at h2
  rw [h2]; rfl
theorem cnt_le (r : List Bool) (n : Nat) : cntT r n ≤ n := by
  unfold cntT
  have := List.count_le_length (a := true) (l := r.take n)
  rw [List.length_take] at this; omega
theorem tkn_pos {q : PlD} (hV : PlV q) : ∀ k, k ≤ q.stages.length → (k : Int) ≤ tknU q.stages k
  | 0, _ => Int.le_refl _
  | k + 1, hk => by
    have := tkn_pos hV k (by omega)
    have := (hV.st k (by omega)).take
    rw [tknU]; omega
theorem tkn_lot {q : PlD} (hV : PlV q) : ∀ k, k ≤ q.stages.length → tknU q.stages k ≤ 30
  | 0, _ => by show (0 : Int) ≤ 30; decide
  | k + 1, hk => by have := (hV.st k (by omega)).fits; have := hV.lot; omega
def decU (ss : List g_1) (r : List Bool) : Nat → Nat → Option (Int × Int)
  | 0, _ => none
  | f + 1, k => if (r.length : Int) < tknU ss (k + 1) then none else if i_2 (ss.getD k s0) (cntT r (tknU ss (k + 1)).toNat) ≠ 3 then some (i_2 (ss.getD k s0) (cntT r (tknU ss (k + 1)).toNat), tknU ss (k + 1)) else decU ss r f (k + 1)
def decF (ss : List g_1) (r : List Bool) : Option (Int × Int) := decU ss r ss.length 0
def p_0 (ss : List g_1) (r : List Bool) : Int := match decF ss r with | none => 3 | some x => if x.2 < (r.length : Int) then 0 else x.1
def q_5 (ss : List g_1) (r : List Bool) : Int := match decF ss r with | none => 0 | some x => if x.2 < (r.length : Int) then 2 else 0
def nU (ss : List g_1) (r : List Bool) : Nat → Nat → Int
  | 0, _ => 0
  | f + 1, k => if (r.length : Int) < tknU ss (k + 1) then tknU ss (k + 1) - (r.length : Int) else if i_2 (ss.getD k s0) (cntT r (tknU ss (k + 1)).toNat) ≠ 3 then 0 else nU ss r f (k + 1)
def r_2 (ss : List g_1) (r : List Bool) : Int := nU ss r ss.length 0
section
variable {ss : List g_1} {r : List Bool} {k : Nat}
theorem dec_open (h : decF ss r = decU ss r (ss.length - k) k) (h2 : (r.length : Int) < tknU ss (k + 1)) : decF ss r = none := by
  rw [h]
  cases hf : ss.length - k with
  | zero => rfl
  | succ f => rw [decU, if_pos h2]
theorem dec_says (hk : k < ss.length) (h : decF ss r = decU ss r (ss.length - k) k) (h2 : ¬ (r.length : Int) < tknU ss (k + 1)) (h3 : ¬ i_2 (ss.getD k s0) (cntT r (tknU ss (k + 1)).toNat) = 3) : decF ss r = some (i_2 (ss.getD k s0) (cntT r (tknU ss (k + 1)).toNat), tknU ss (k + 1)) := by
  rw [h, show ss.length - k = (ss.length - (k + 1)) + 1 by omega, decU, if_neg h2, if_pos h3]
theorem dec_next (hk : k < ss.length) (h : decF ss r = decU ss r (ss.length - k) k) (h2 : ¬ (r.length : Int) < tknU ss (k + 1)) (h3 : i_2 (ss.getD k s0) (cntT r (tknU ss (k + 1)).toNat) = 3) : decF ss r = decU ss r (ss.length - (k + 1)) (k + 1) := by
  rw [h, show ss.length - k = (ss.length - (k + 1)) + 1 by omega, decU, if_neg h2, if_neg (by rw [h3]; simp)]
theorem play_none (h : decF ss r = none) : p_0 ss r = 3 ∧ q_5 ss r = 0 := by unfold p_0 q_5; rw [h]; exact ⟨rfl, rfl⟩
theorem play_more {x : Int × Int} (h : decF ss r = some x) (h2 : x.2 < (r.length : Int)) : p_0 ss r = 0 ∧ q_5 ss r = 2 := by unfold p_0 q_5; rw [h]; simp only [h2, if_true, and_self]
theorem play_done {x : Int × Int} (h : decF ss r = some x) (h2 : ¬ x.2 < (r.length : Int)) : p_0 ss r = x.1 ∧ q_5 ss r = 0 := by unfold p_0 q_5; rw [h]; simp only [h2, if_false, and_self]
theorem says_not3 {s : g_1} {b : Int} (h : s.rej = s.acc + 1) : i_2 s b ≠ 3 := by
  unfold i_2; split
  · decide
  · rename_i h1; split
    · decide
    · omega
theorem decU_some : ∀ f k x, decU ss r f k = some x → x.1 ≠ 3 ∧ x.2 ≤ (r.length : Int)
  | 0, _, _, h => by rw [decU] at h; cases h
  | f + 1, k, x, h => by
    rw [decU] at h
    split at h
    · cases h
    · rename_i h1
      split at h
      · rename_i h2
        cases h
        exact ⟨h2, by dsimp only; omega⟩
      · exact decU_some f (k + 1) x h
end
theorem cnt_take {r : List Bool} {n m : Nat} (h : m ≤ n) : cntT (r.take n) m = cntT r m := by
  unfold cntT; rw [List.take_take, Nat.min_eq_left h]
theorem decU_ge {ss : List g_1} {r : List Bool} (hm : ∀ i, tknU ss i ≤ tknU ss (i + 1)) : ∀ f k x, decU ss r f k = some x → tknU ss (k + 1) ≤ x.2
  | 0, _, _, h => by rw [decU] at h; cases h
  | f + 1, k, x, h => by
    rw [decU] at h
    split at h
    · cases h
    · split at h
      · cases h; exact Int.le_refl _
      · have := decU_ge hm f (k + 1) x h
        have := hm (k + 1)
        omega
theorem decU_take {ss : List g_1} {r : List Bool} {n : Nat} (hn : n ≤ r.length) (hm : ∀ i, tknU ss i ≤ tknU ss (i + 1)) (h0 : ∀ i, 0 ≤ tknU ss i) : ∀ f k, decU ss (r.take n) f k = match decU ss r f k with | none => none | some x => if x.2 ≤ (n : Int) then some x else none
  | 0, _ => rfl
  | f + 1, k => by
    have hl : (r.take n).length = n := by rw [List.length_take]; omega
    by_cases h1 : (n : Int) < tknU ss (k + 1)
    · have hL : decU ss (r.take n) (f + 1) k = none := by rw [decU, hl, if_pos h1]
      rw [hL]
      split
      · rfl
      · rename_i x hx
        have := decU_ge hm (f + 1) k x hx
        rw [if_neg (by omega)]
    · have h2 := h0 (k + 1)
      have hc : cntT (r.take n) (tknU ss (k + 1)).toNat = cntT r (tknU ss (k + 1)).toNat := cnt_take (by omega)
      by_cases h3 : i_2 (ss.getD k s0) (cntT r (tknU ss (k + 1)).toNat) ≠ 3
      · have hL : decU ss (r.take n) (f + 1) k = some (i_2 (ss.getD k s0) (cntT r (tknU ss (k + 1)).toNat), tknU ss (k + 1)) := by
          rw [decU, hl, if_neg h1, hc, if_pos h3]
        have hR : decU ss r (f + 1) k = some (i_2 (ss.getD k s0) (cntT r (tknU ss (k + 1)).toNat), tknU ss (k + 1)) := by
          rw [decU, if_neg (by omega), if_pos h3]
        rw [hL, hR]
        dsimp only
        rw [if_pos (by omega)]
      · have hL : decU ss (r.take n) (f + 1) k = decU ss (r.take n) f (k + 1) := by
          rw [decU, hl, if_neg h1, hc, if_neg h3]
        have hR : decU ss r (f + 1) k = decU ss r f (k + 1) := by
          rw [decU, if_neg (by omega), if_neg h3]
        rw [hL, hR]
        exact decU_take hn hm h0 f (k + 1)
theorem tkn_mono {q : PlD} (hV : PlV q) : ∀ i, tknU q.stages i ≤ tknU q.stages (i + 1) := by
  intro i
  rw [tknU]
  by_cases h : i < q.stages.length
  · have := (hV.st i h).take; omega
  · rw [List.getD, List.getElem?_eq_none (by omega)]
    show tknU q.stages i ≤ tknU q.stages i + s0.take
    unfold s0; dsimp only; omega
theorem tkn_nn {q : PlD} (hV : PlV q) : ∀ i, 0 ≤ tknU q.stages i
  | 0 => by show (0 : Int) ≤ 0; decide
  | i + 1 => by have := tkn_nn hV i; have := tkn_mono hV i; omega
theorem dec_take {q : PlD} (hV : PlV q) {r : List Bool} {n : Nat} (hn : n ≤ r.length) : decF q.stages (r.take n) = match decF q.stages r with | none => none | some x => if x.2 ≤ (n : Int) then some x else none :=
  decU_take hn (tkn_mono hV) (tkn_nn hV) _ _
theorem st_V {q : PlD} {k : Nat} (h1 : inB (q.stages.getD k s0).take 1 30 = true) (h2 : ¬ q.lot < tknU q.stages k + (q.stages.getD k s0).take) (h3 : inB (q.stages.getD k s0).acc (-1) 30 = true) (h4 : ¬ (q.stages.getD k s0).rej ≤ (q.stages.getD k s0).acc) (h5 : ¬ tknU q.stages k + (q.stages.getD k s0).take + 1 < (q.stages.getD k s0).rej) (h6 : 0 < (k : Int) → (q.stages.getD ((k : Int) - 1).toNat s0).acc ≤ (q.stages.getD k s0).acc ∧ (q.stages.getD ((k : Int) - 1).toNat s0).rej ≤ (q.stages.getD k s0).rej) (h7 : (k : Int) = (q.stages.length : Int) - 1 → (q.stages.getD k s0).rej = (q.stages.getD k s0).acc + 1) : StV q k := by
  rw [g_3] at h1 h3
  refine ⟨h1, by rw [tknU]; omega, h3, ⟨by omega, by rw [tknU]; omega⟩, ?_, fun e => h7 (by omega)⟩
  cases k with
  | zero => exact ⟨by show (-1 : Int) ≤ _; exact h3.1, by show (0 : Int) ≤ _; omega⟩
  | succ k =>
    have := h6 (by omega)
    rw [show ((k + 1 : Nat) : Int) - 1 = (k : Int) by omega, Int.toNat_natCast] at this
    exact this
theorem pl_V {q : PlD} {k : Nat} (h1 : ¬ 3 < (q.stages.length : Int)) (h2 : inB q.lot 1 30 = true) (h3 : ¬ (q.stages.length : Int) = 0) (h4 : ∀ i, i < k → StV q i) (h5 : q.stages.length ≤ k) : PlV q :=
  ⟨by omega, by omega, g_3.1 h2, fun i hi => h4 i (by omega)⟩
theorem last_V {q : PlD} (hV : PlV q) {k : Nat} (hk : k = q.stages.length) : (p_9 q.stages k).rej = (p_9 q.stages k).acc + 1 := by
  have h1 := hV.one
  subst hk
  cases hl : q.stages.length with
  | zero => omega
  | succ n => exact (hV.st n (by omega)).last (by omega)
theorem last_bd {q : PlD} (hV : PlV q) {k : Nat} (hk : k ≤ q.stages.length) : -1 ≤ (p_9 q.stages k).acc ∧ (p_9 q.stages k).acc ≤ 30 := by
  cases k with
  | zero => show (-1 : Int) ≤ -1 ∧ (-1 : Int) ≤ 30; decide
  | succ n => exact (hV.st n (by omega)).acc
theorem tkn_step {q : PlD} {k : Nat} (hV : PlV q) (hk : k < q.stages.length) : tknU q.stages k + (q.stages.getD k s0).take ≤ q.lot ∧ (k : Int) ≤ tknU q.stages k ∧ tknU q.stages k ≤ 30 ∧ (1 ≤ (q.stages.getD k s0).take ∧ (q.stages.getD k s0).take ≤ 30) := ⟨(hV.st k hk).fits, tkn_pos hV k (by omega), tkn_lot hV k (by omega), (hV.st k hk).take⟩
theorem play_go {q : PlD} (hV : PlV q) {r : List Bool} {k : Nat} (hk : k ≤ q.stages.length) (hs : ∀ i, i < k → i_2 (q.stages.getD i s0) (cntT r (tknU q.stages (i + 1)).toNat) = 3) : (k : Int) < (q.stages.length : Int) := by
  rcases Nat.lt_or_ge k q.stages.length with h | h
  · omega
  · exfalso
    have h1 := hV.one
    exact says_not3 ((hV.st (k - 1) (by omega)).last (by omega)) (hs (k - 1) (by omega))
section
variable {ss : List g_1} {r : List Bool} {k : Nat} {cc T : Int}
theorem dec_says2 (hk : k < ss.length) (h : decF ss r = decU ss r (ss.length - k) k) (h2 : ¬ (r.length : Int) < tknU ss k + (ss.getD k s0).take) (hc : cc = ((cntT r (tknU ss k + (ss.getD k s0).take).toNat : Nat) : Int)) (h3 : ¬ i_2 (ss.getD k s0) cc = 3) : decF ss r = some (i_2 (ss.getD k s0) cc, tknU ss k + (ss.getD k s0).take) := by
  subst hc; exact dec_says hk h h2 h3
theorem dec_next2 (hk : k < ss.length) (h : decF ss r = decU ss r (ss.length - k) k) (h2 : ¬ (r.length : Int) < tknU ss k + (ss.getD k s0).take) (hc : cc = ((cntT r (tknU ss k + (ss.getD k s0).take).toNat : Nat) : Int)) (h3 : i_2 (ss.getD k s0) cc = 3) : decF ss r = decU ss r (ss.length - (k + 1)) (k + 1) := by
  subst hc; exact dec_next hk h h2 h3
theorem n_open2 (hk : k < ss.length) (h : r_2 ss r = nU ss r (ss.length - k) k) (h2 : (r.length : Int) < tknU ss k + (ss.getD k s0).take) : r_2 ss r = tknU ss k + (ss.getD k s0).take - (r.length : Int) := by
  rw [h, show ss.length - k = (ss.length - (k + 1)) + 1 by omega, nU, tknU, if_pos h2]
theorem n_says2 (hk : k < ss.length) (h : r_2 ss r = nU ss r (ss.length - k) k) (h2 : ¬ (r.length : Int) < tknU ss k + (ss.getD k s0).take) (hc : cc = ((cntT r (tknU ss k + (ss.getD k s0).take).toNat : Nat) : Int)) (h3 : ¬ i_2 (ss.getD k s0) cc = 3) : r_2 ss r = 0 := by
  subst hc
  rw [h, show ss.length - k = (ss.length - (k + 1)) + 1 by omega, nU, tknU, if_neg h2, if_pos h3]
theorem n_next2 (hk : k < ss.length) (h : r_2 ss r = nU ss r (ss.length - k) k) (h2 : ¬ (r.length : Int) < tknU ss k + (ss.getD k s0).take) (hc : cc = ((cntT r (tknU ss k + (ss.getD k s0).take).toNat : Nat) : Int)) (h3 : i_2 (ss.getD k s0) cc = 3) : r_2 ss r = nU ss r (ss.length - (k + 1)) (k + 1) := by
  subst hc
  rw [h, show ss.length - k = (ss.length - (k + 1)) + 1 by omega, nU, tknU, if_neg h2, if_neg (by rw [h3]; simp)]
theorem says_up (h : ∀ i, i < k → i_2 (ss.getD i s0) (cntT r (tknU ss (i + 1)).toNat) = 3) (hc : cc = ((cntT r (tknU ss k + (ss.getD k s0).take).toNat : Nat) : Int)) (h3 : i_2 (ss.getD k s0) cc = 3) : ∀ i, i < k + 1 → i_2 (ss.getD i s0) (cntT r (tknU ss (i + 1)).toNat) = 3 := by
  intro i hi
  rcases Nat.lt_succ_iff_lt_or_eq.1 hi with e | e
  · exact h i e
  · subst e; subst hc; exact h3
end
theorem boolC_sub {r : List Bool} {l h i : Nat} (hi : i < h - l) (hh : h ≤ r.length) : (((d_1 r).drop (l * 1)).take ((h - l) * 1))[i * 1]? = some (.bool (r.getD (l + i) false)) := by
  simp only [Nat.mul_one]
  rw [List.getElem?_take_of_lt hi, List.getElem?_drop]
  have := h_6 (l := r) (i := l + i) (by omega)
  rw [Nat.mul_one] at this; exact this
theorem boolC_cutHi (r : List Bool) (n : Nat) : (((d_1 r).drop (0 * 1)).take ((n - 0) * 1)) = d_1 (r.take n) := by
  simp [d_1, List.map_take]
def j_1 (ss : List g_1) (r : List Bool) : Int := match decF ss r with | none => 3 | some x => x.1
theorem verd_at {q : PlD} (hV : PlV q) {r : List Bool} {n : Nat} (hn : n ≤ r.length) (hD : ∀ x, decF q.stages r = some x → (n : Int) ≤ x.2) : q_5 q.stages (r.take n) = 0 ∧ ((p_0 q.stages (r.take n) = j_1 q.stages r ∧ ¬ p_0 q.stages (r.take n) = 3) ∨ (p_0 q.stages (r.take n) = 3 ∧ ∀ x, decF q.stages r = some x → ((n + 1 : Nat) : Int) ≤ x.2)) := by
  have hl : (r.take n).length = n := by rw [List.length_take]; omega
  have ht := dec_take hV (r := r) hn
  cases hd : decF q.stages r with
  | none =>
    rw [hd] at ht
    have := play_none ht
    exact ⟨this.2, .inr ⟨this.1, fun _ h => by cases h⟩⟩
  | some x =>
    have h0 := hD x hd
    rw [hd] at ht
    dsimp only at ht
    by_cases h1 : x.2 ≤ (n : Int)
    · rw [if_pos h1] at ht
      have := play_done ht (by rw [hl]; omega)
      have h3 := (decU_some _ _ _ hd).1
      refine ⟨this.2, .inl ⟨?_, ?_⟩⟩
      · rw [this.1, j_1, hd]
      · rw [this.1]; exact h3
    · rw [if_neg h1] at ht
      have := play_none ht
      exact ⟨this.2, .inr ⟨this.1, fun y hy => by cases hy; omega⟩⟩
theorem dec_nn {q : PlD} (hV : PlV q) {r : List Bool} {x : Int × Int} (h : decF q.stages r = some x) : 0 ≤ x.2 := by
  have := decU_ge (tkn_mono hV) _ _ _ h
  have := tkn_nn hV (0 + 1)
  omega
theorem verd_end {ss : List g_1} {r : List Bool} (h : ∀ x, decF ss r = some x → ((r.length + 1 : Nat) : Int) ≤ x.2) : j_1 ss r = 3 := by
  unfold j_1
  cases hd : decF ss r with
  | none => rfl
  | some x => have := (decU_some _ _ _ hd).2; have := h x hd; omega
end Go.Top

namespace Go.Proofs.Ytphkmnaohimdbaa
open Go.RowKit Go.Shelf Go.Eng Go.Top
end Go.Proofs.Ytphkmnaohimdbaa

namespace Go.Proofs.Ytphkmnaohimdbaa
open Go.RowKit Go.Shelf Go.Eng Go.Top
theorem en_35 : ∀ args w, (callFunc 35 args).run Try.prog w = .ok (.enter 35 args) w := enters_of Try.func35 (by kernel_rfl) rfl
theorem p_7 : fldK Try.prog 78 3 = some 3 := by kernel_rfl
theorem ty_3 : tyK Try.prog 3 = some (false, 1) := by kernel_rfl
theorem p_6 : fldK Try.prog 78 2 = some 2 := by kernel_rfl
theorem r_7 : (Try.prog.info? 78).bind (·.zero) = some (Value.agg #[(iv 0), (iv 0), (iv 0), (iv 0)]) := by kernel_rfl
theorem p_4 : fldK Try.prog 78 0 = some 0 := by kernel_rfl
theorem p_5 : fldK Try.prog 78 1 = some 1 := by kernel_rfl
theorem k_7 (x0_0 : Int) (x1_0 : Int) (x2_0 : Int) (x3_0 : Int) (w : World) : (Instr.build 78 #[(0, (.int .i64 x0_0)), (1, (.int .i64 x1_0)), (2, (.int .i64 x2_0)), (3, (.int .i64 x3_0))]).run Try.prog w = .ok (.agg #[(.int .i64 x0_0), (.int .i64 x1_0), (.int .i64 x2_0), (.int .i64 x3_0)]) w := by kernel_rfl
theorem h_9 : tyK Try.prog 78 = some (true, 4) := by kernel_rfl
theorem en_16 : ∀ args w, (callFunc 16 args).run Try.prog w = .ok (.enter 16 args) w := enters_of Try.func16 (by kernel_rfl) rfl
theorem en_40 : ∀ args w, (callFunc 40 args).run Try.prog w = .ok (.enter 40 args) w := enters_of Try.func40 (by kernel_rfl) rfl
theorem f_2 (x0_0 : Int) (x0_1 : Int) (x0_2 : Int) (x0_3 : Int) : Instr.fill (fun i => some (i * 4, 4)) ((Array.range (1 * 4)).map ((Value.agg #[(iv 0), (iv 0), (iv 0), (iv 0)]).cells[· % (Value.agg #[(iv 0), (iv 0), (iv 0), (iv 0)]).cells.size]!)) [(0, .agg #[(.int .i64 x0_0), (.int .i64 x0_1), (.int .i64 x0_2), (.int .i64 x0_3)])] = some (([(.int .i64 x0_0), (.int .i64 x0_1), (.int .i64 x0_2), (.int .i64 x0_3)] : List Value).toArray) := by kernel_rfl
theorem j_0 : Try.prog.underlying 71 = some (.slice 78) := by kernel_rfl
theorem el_78 : elK Try.prog 78 = some ((Value.agg #[(iv 0), (iv 0), (iv 0), (iv 0)]), 4, 32) := by kernel_rfl
theorem q_4 (n lo hi : Int) (w : World) :
  Calls Try.prog 11 #[(iv n), (iv lo), (iv hi)] w (Ret fun v w' => v = .bool (inB n lo hi) ∧ w' = w) := by
 refine b_2 Try.func11 rfl fun R H => ?_
 replace H : Fr 15 [] [(0, (iv n)), (1, (iv lo)), (2, (iv hi))] R := H
 have i : Sep NoB w w [] := Sep.start _ _
 refine m2 (s1 H (a_1 rfl (evc _ _)) fun b J => ?_); clear H R
 refine n4 (s1 J (a_0 rfl J.e) fun c O => ?_); clear J b
 refine s1 O (a_0 rfl O.e) fun d I => ?_; clear O c
 refine s1 I (l_9 rfl I.e I.e) fun f P => ?_; clear I d
 refine s1 P (a_0 rfl P.e) fun a A => ?_; clear P f
 by_cases Q : lo ≤ n
 ·skip
  rw [decide_eq_true Q] at A
  refine s5 A (a_0 rfl A.e) fun S D => ?_; clear A a
  refine s5 D (a_0 rfl D.e) fun T B => ?_; clear D S
  refine s5 B (j_3 rfl B.e B.e) fun U C => ?_; clear B T
  refine s1 C (a_6 rfl C.e C.e) fun V E => ?_; clear C U
  refine s1 E (a_1 rfl E.e) fun g K => ?_; clear E V
  refine n1 (c_3 (a_9 K (.inl rfl) (a_4 K rfl (.tmp rfl)) ?_))
  exact ⟨congrArg Value.bool (by unfold inB; simp [*]), rfl⟩
 skip
 rw [decide_eq_false Q] at A
 refine s3 A fun W L => ?_; clear A a
 refine s3 L fun X M => ?_; clear L W
 refine s3 M fun Y F => ?_; clear M X
 refine s1 F (a_8 rfl F.e (evc _ _)) fun Z G => ?_; clear F Y
 refine s1 G (a_1 rfl G.e) fun h N => ?_; clear G Z
 refine n1 (c_3 (a_9 N (.inl rfl) (a_4 N rfl (.tmp rfl)) ?_))
 exact ⟨congrArg Value.bool (by unfold inB; simp [*]), rfl⟩
theorem in9_ok (n lo hi : Int) (w : World) :
  Calls Try.prog 12 #[(iv n), (iv lo), (iv hi)] w (Ret fun v w' => v = .bool (inB n lo hi) ∧ w' = w) := by
 refine b_2 Try.func12 rfl fun R H => ?_
 replace H : Fr 15 [] [(0, (iv n)), (1, (iv lo)), (2, (iv hi))] R := H
 have i : Sep NoB w w [] := Sep.start _ _
 refine m2 (s1 H (a_1 rfl (evc _ _)) fun b J => ?_); clear H R
 refine n4 (s1 J (a_0 rfl J.e) fun c O => ?_); clear J b
 refine s1 O (a_0 rfl O.e) fun d I => ?_; clear O c
 refine s1 I (l_9 rfl I.e I.e) fun f P => ?_; clear I d
 refine s1 P (a_0 rfl P.e) fun a A => ?_; clear P f
 by_cases Q : lo ≤ n
 ·skip
  rw [decide_eq_true Q] at A
  refine s5 A (a_0 rfl A.e) fun S D => ?_; clear A a
  refine s5 D (a_0 rfl D.e) fun T B => ?_; clear D S
  refine s5 B (j_3 rfl B.e B.e) fun U C => ?_; clear B T
  refine s1 C (a_6 rfl C.e C.e) fun V E => ?_; clear C U
  refine s1 E (a_1 rfl E.e) fun g K => ?_; clear E V
  refine n1 (c_3 (a_9 K (.inl rfl) (a_4 K rfl (.tmp rfl)) ?_))
  exact ⟨congrArg Value.bool (by unfold inB; simp [*]), rfl⟩
 skip
 rw [decide_eq_false Q] at A
 refine s3 A fun W L => ?_; clear A a
 refine s3 L fun X M => ?_; clear L W
 refine s3 M fun Y F => ?_; clear M X
 refine s1 F (a_8 rfl F.e (evc _ _)) fun Z G => ?_; clear F Y
 refine s1 G (a_1 rfl G.e) fun h N => ?_; clear G Z
 refine n1 (c_3 (a_9 N (.inl rfl) (a_4 N rfl (.tmp rfl)) ?_))
 exact ⟨congrArg Value.bool (by unfold inB; simp [*]), rfl⟩
theorem l_1 (n lo hi : Int) (w : World) :
  Calls Try.prog 35 #[(iv n), (iv lo), (iv hi)] w (Ret fun v w' => v = .bool (inB n lo hi) ∧ w' = w) := by
 refine b_2 Try.func35 rfl fun R H => ?_
 replace H : Fr 15 [] [(0, (iv n)), (1, (iv lo)), (2, (iv hi))] R := H
 have i : Sep NoB w w [] := Sep.start _ _
 refine m2 (s1 H (a_1 rfl (evc _ _)) fun b J => ?_); clear H R
 refine n4 (s1 J (a_0 rfl J.e) fun c O => ?_); clear J b
 refine s1 O (a_0 rfl O.e) fun d I => ?_; clear O c
 refine s1 I (j_3 rfl I.e I.e) fun f P => ?_; clear I d
 refine s1 P (a_0 rfl P.e) fun a A => ?_; clear P f
 by_cases Q : lo ≤ n
 ·skip
  rw [decide_eq_true Q] at A
  refine s5 A (a_0 rfl A.e) fun S D => ?_; clear A a
  refine s5 D (a_0 rfl D.e) fun T B => ?_; clear D S
  refine s5 B (j_3 rfl B.e B.e) fun U C => ?_; clear B T
  refine s1 C (a_6 rfl C.e C.e) fun V E => ?_; clear C U
  refine s1 E (a_1 rfl E.e) fun g K => ?_; clear E V
  refine n1 (c_3 (a_9 K (.inl rfl) (a_4 K rfl (.tmp rfl)) ?_))
  exact ⟨congrArg Value.bool (by unfold inB; simp [*]), rfl⟩
 skip
 rw [decide_eq_false Q] at A
 refine s3 A fun W L => ?_; clear A a
 refine s3 L fun X M => ?_; clear L W
 refine s3 M fun Y F => ?_; clear M X
 refine s1 F (a_8 rfl F.e (evc _ _)) fun Z G => ?_; clear F Y
 refine s1 G (a_1 rfl G.e) fun h N => ?_; clear G Z
 refine n1 (c_3 (a_9 N (.inl rfl) (a_4 N rfl (.tmp rfl)) ?_))
 exact ⟨congrArg Value.bool (by unfold inB; simp [*]), rfl⟩
theorem within9_ok (n lo hi : Int) (w : World) :
  Calls Try.prog 37 #[(iv n), (iv lo), (iv hi)] w (Ret fun v w' => v = .bool (inB n lo hi) ∧ w' = w) := by
 refine b_2 Try.func37 rfl fun R H => ?_
 replace H : Fr 15 [] [(0, (iv n)), (1, (iv lo)), (2, (iv hi))] R := H
 have i : Sep NoB w w [] := Sep.start _ _
 refine m2 (s1 H (a_1 rfl (evc _ _)) fun b J => ?_); clear H R
 refine n4 (s1 J (a_0 rfl J.e) fun c O => ?_); clear J b
 refine s1 O (a_0 rfl O.e) fun d I => ?_; clear O c
 refine s1 I (j_3 rfl I.e I.e) fun f P => ?_; clear I d
 refine s1 P (a_0 rfl P.e) fun a A => ?_; clear P f
 by_cases Q : lo ≤ n
 ·skip
  rw [decide_eq_true Q] at A
  refine s5 A (a_0 rfl A.e) fun S D => ?_; clear A a
  refine s5 D (a_0 rfl D.e) fun T B => ?_; clear D S
  refine s5 B (j_3 rfl B.e B.e) fun U C => ?_; clear B T
  refine s1 C (a_6 rfl C.e C.e) fun V E => ?_; clear C U
  refine s1 E (a_1 rfl E.e) fun g K => ?_; clear E V
  refine n1 (c_3 (a_9 K (.inl rfl) (a_4 K rfl (.tmp rfl)) ?_))
  exact ⟨congrArg Value.bool (by unfold inB; simp [*]), rfl⟩
 skip
 rw [decide_eq_false Q] at A
 refine s3 A fun W L => ?_; clear A a
 refine s3 L fun X M => ?_; clear L W
 refine s3 M fun Y F => ?_; clear M X
 refine s1 F (a_8 rfl F.e (evc _ _)) fun Z G => ?_; clear F Y
 refine s1 G (a_1 rfl G.e) fun h N => ?_; clear G Z
 refine n1 (c_3 (a_9 N (.inl rfl) (a_4 N rfl (.tmp rfl)) ?_))
 exact ⟨congrArg Value.bool (by unfold inB; simp [*]), rfl⟩
theorem side_ok (n : Int) (w : World) :
  Calls Try.prog 50 #[(iv n)] w (Ret fun v w' => v = .bool (inB n 1 8) ∧ Ext NoB w w') := by
 refine b_2 Try.func50 rfl fun F A => ?_
 replace A : Fr 5 [] [(0, (iv n))] F := A
 have G : Sep NoB w w [] := Sep.start _ _
 refine m2 (s1 A (a_1 rfl (evc _ _)) fun H B => ?_); clear A F
 refine n4 (s1 B (a_0 rfl B.e) fun I C => ?_); clear B H
 refine s2 C (b_5 rfl en_35 (ev3 C.e (evc _ _) (evc _ _)) (l_1 _ _ _ _)) ?_
 rintro J _ W_ ⟨rfl, hW_⟩ D; have hW2_ := hW_.symm; subst hW2_; clear hW_ C I
 refine s1 D (a_1 rfl D.e) fun K E => ?_; clear D J
 exact n1 (c_3 (a_9 E (.inl rfl) (a_4 E rfl (.tmp rfl)) (⟨rfl, G.ext⟩)))
theorem far_ok (q : Quad) (a : Bool) (w : World) :
  Calls Try.prog 16 #[(Value.agg #[(iv q.x), (iv q.y), (iv q.w), (iv q.l)]), (Value.bool a)] w (Ret fun v w' => v = .int .i64 (farF q a) ∧ Ext NoB w w') := by
 refine b_2 Try.func16 rfl fun N B => ?_
 replace B : Fr 10 [] [(0, (Value.agg #[(iv q.x), (iv q.y), (iv q.w), (iv q.l)])), (1, (Value.bool a))] N := B
 have M : Sep NoB w w [] := Sep.start _ _
 refine m2 (s2 B (e_5 M rfl B.e (cs := [(iv q.x), (iv q.y), (iv q.w), (iv q.l)]) rfl) ?_)
 rintro T _ Y ⟨X, rfl, H⟩ L; clear B M N
 refine s1 L (a_1 rfl (evc _ _)) fun U K => ?_; clear L T
 refine n2 (m2 (s1 K (a_0 rfl K.e) fun S A => ?_)); clear K U
 refine n1 ?_
 rcases Bool.eq_false_or_eq_true (a) with G | G
 ·skip
  rw [G] at A
  refine c_1 A rfl (m2 (s1 A (a_2 rfl p_7 A.e) fun O C => ?_)); clear A S
  refine s1 C (a_3 rfl ty_3 C.e (H.bk 0 rfl) rfl) fun P D => ?_; clear C O
  refine s1 D (a_1 rfl D.e) fun V I => ?_; clear D P
  refine n1 (c_3 (b_1 (a_9 I (.inl rfl) (a_4 I rfl (.tmp rfl)) ?_)))
  exact ⟨by unfold farF; simp [*], H.ext⟩
 skip
 rw [G] at A
 refine b_3 A rfl (c_0 (b_0 (m2 (s1 A (a_2 rfl p_6 A.e) fun Q E => ?_)))); clear A S
 refine s1 E (a_3 rfl ty_3 E.e (H.bk 0 rfl) rfl) fun R F => ?_; clear E Q
 refine s1 F (a_1 rfl F.e) fun W J => ?_; clear F R
 refine n1 (c_3 (a_9 J (.inl rfl) (a_4 J rfl (.tmp rfl)) ?_))
 exact ⟨by unfold farF; simp [*], H.ext⟩
theorem o_9 (q : Quad) (a : Bool) (fr many : Int) (hq : n_7 q) (hf : 0 ≤ fr ∧ fr ≤ 8) (w : World) :
  Calls Try.prog 40 #[(Value.agg #[(iv q.x), (iv q.y), (iv q.w), (iv q.l)]), (Value.bool a), (iv fr), (iv many)] w (Ret fun v w' => v = .agg #[.int .i64 (d_4 q a fr many).x, .int .i64 (d_4 q a fr many).y, .int .i64 (d_4 q a fr many).w, .int .i64 (d_4 q a fr many).l] ∧ Ext NoB w w') := by
 refine b_2 Try.func40 rfl fun n I => ?_
 replace I : Fr 30 [] [(0, (Value.agg #[(iv q.x), (iv q.y), (iv q.w), (iv q.l)])), (1, (Value.bool a)), (2, (iv fr)), (3, (iv many))] n := I
 have hqx := hq.x; have hqy := hq.y; have hqw := hq.w; have hql := hq.l
 have k : Sep NoB w w [] := Sep.start _ _
 refine m2 (s2 I (e_5 k rfl I.e (cs := [(iv q.x), (iv q.y), (iv q.w), (iv q.l)]) rfl) ?_)
 rintro a1 _ w3 ⟨b4, rfl, m⟩ j; clear I k n
 refine s2 j (e_6 m rfl r_7 (cs := [(iv 0), (iv 0), (iv 0), (iv 0)]) rfl) ?_
 rintro a6 _ w8 ⟨b9, rfl, B⟩ b; clear j m a1
 refine n2 (m2 (s1 b (a_0 rfl b.e) fun h A => ?_)); clear b a6
 refine n1 ?_
 rcases Bool.eq_false_or_eq_true (a) with X | X
 ·skip
  rw [X] at A
  refine c_1 A rfl (m2 (s1 A (a_2 rfl p_4 A.e) fun o J => ?_)); clear A h
  refine s1 J (a_3 rfl ty_3 J.e (B.bk 1 rfl) rfl) fun p K => ?_; clear J o
  refine s1 K (a_2 rfl p_5 K.e) fun r L => ?_; clear K p
  refine s1 L (a_3 rfl ty_3 L.e (B.bk 1 rfl) rfl) fun s M => ?_; clear L r
  refine s1 M (a_0 rfl M.e) fun t E => ?_; clear M s
  refine s1 E (c_6 rfl E.e E.e (by omega) (by omega)) fun u N => ?_; clear E t
  refine s1 N (a_2 rfl p_6 N.e) fun z O => ?_; clear N u
  refine s1 O (a_3 rfl ty_3 O.e (B.bk 1 rfl) rfl) fun AA P => ?_; clear O z
  refine s1 P (a_0 rfl P.e) fun AB C => ?_; clear P AA
  refine s1 C (e_8 rfl (pv4 C.e C.e C.e C.e) (k_7 _ _ _ _)) fun AR F => ?_; clear C AB
  refine s7 F (d_8 B rfl h_9 F.e F.e (i := 0) rfl (vs := [(iv q.x), (iv (q.y + fr)), (iv q.w), (iv many)]) rfl rfl rfl (Nat.le_of_ble_eq_true rfl)) ?_
  intro _ AN c Y; clear F
  have d : Sep NoB w AN [(blk b9 78 [(iv q.x), (iv (q.y + fr)), (iv q.w), (iv many)]), (blk b4 78 [(iv q.x), (iv q.y), (iv q.w), (iv q.l)])] := c; clear c B
  refine n1 (c_3 (b_1 (a_9 Y (.inl rfl) (a_4 Y rfl (.cellA rfl h_9 (d.bk 0 rfl) (l := [(iv q.x), (iv (q.y + fr)), (iv q.w), (iv many)]) rfl rfl)) ?_)))
  exact ⟨by unfold d_4; simp [*], d.ext⟩
 skip
 rw [X] at A
 refine b_3 A rfl (c_0 (b_0 (m2 (s1 A (a_2 rfl p_4 A.e) fun AC Q => ?_)))); clear A h
 refine s1 Q (a_3 rfl ty_3 Q.e (B.bk 1 rfl) rfl) fun AD R => ?_; clear Q AC
 refine s1 R (a_0 rfl R.e) fun AE G => ?_; clear R AD
 refine s1 G (c_6 rfl G.e G.e (by omega) (by omega)) fun AF S => ?_; clear G AE
 refine s1 S (a_2 rfl p_5 S.e) fun AG T => ?_; clear S AF
 refine s1 T (a_3 rfl ty_3 T.e (B.bk 1 rfl) rfl) fun AH U => ?_; clear T AG
 refine s1 U (a_0 rfl U.e) fun AI V => ?_; clear U AH
 refine s1 V (a_2 rfl p_7 V.e) fun AJ W => ?_; clear V AI
 refine s1 W (a_3 rfl ty_3 W.e (B.bk 1 rfl) rfl) fun AK D => ?_; clear W AJ
 refine s1 D (e_8 rfl (pv4 D.e D.e D.e D.e) (k_7 _ _ _ _)) fun AS H => ?_; clear D AK
 refine s7 H (d_8 B rfl h_9 H.e H.e (i := 0) rfl (vs := [(iv (q.x + fr)), (iv q.y), (iv many), (iv q.l)]) rfl rfl rfl (Nat.le_of_ble_eq_true rfl)) ?_
 intro _ AO f Z; clear H
 have g : Sep NoB w AO [(blk b9 78 [(iv (q.x + fr)), (iv q.y), (iv many), (iv q.l)]), (blk b4 78 [(iv q.x), (iv q.y), (iv q.w), (iv q.l)])] := f; clear f B
 refine n1 (c_3 (a_9 Z (.inl rfl) (a_4 Z rfl (.cellA rfl h_9 (g.bk 0 rfl) (l := [(iv (q.x + fr)), (iv q.y), (iv many), (iv q.l)]) rfl rfl)) ?_))
 exact ⟨by unfold d_4; simp [*], g.ext⟩
theorem parts_ok (q : Quad) (a : Bool) (pos saw : Int) (hq : n_7 q) (hp : -1000 ≤ pos ∧ pos ≤ 1000) (hs : 0 ≤ saw ∧ saw ≤ 2) (w : World) :
  Calls Try.prog 28 #[(Value.agg #[(iv q.x), (iv q.y), (iv q.w), (iv q.l)]), (Value.bool a), (iv pos), (iv saw)] w (Ret fun v w' => Ext NoB w w' ∧ w'.ownsRow w.heap.size 78 4 v (a_7 q a pos saw).length (recC d_5 (a_7 q a pos saw))) := by
 refine b_2 Try.func28 rfl fun a0 Dd => ?_
 replace Dd : Fr 80 [] [(0, (Value.agg #[(iv q.x), (iv q.y), (iv q.w), (iv q.l)])), (1, (Value.bool a)), (2, (iv pos)), (3, (iv saw))] a0 := Dd
 have hqx := hq.x; have hqy := hq.y; have hqw := hq.w; have hql := hq.l; have hfb := far_bd hq a
 have G4 : Sep NoB w w [] := Sep.start _ _
 refine m2 (s2 Dd (e_5 G4 rfl Dd.e (cs := [(iv q.x), (iv q.y), (iv q.w), (iv q.l)]) rfl) ?_)
 rintro a1 _ w3 ⟨b4, rfl, Gr⟩ G3; clear Dd G4 a0
 refine s1 G3 (a_1 rfl (evc _ _)) fun a6 Ge => ?_; clear G3 a1
 refine n4 (s1 Ge (c_2 rfl h_9 (Ge.ev rfl) (Gr.bk 0 rfl) (l := [(iv q.x), (iv q.y), (iv q.w), (iv q.l)]) rfl rfl) fun a8 Gn => ?_); clear Ge a6
 refine s1 Gn (a_0 rfl Gn.e) fun La Ay => ?_; clear Gn a8
 refine s2 Ay (b_5 rfl en_16 (ev2 Ay.e Ay.e) (far_ok q a _)) ?_
 rintro Lb _ NA ⟨rfl, Gq⟩ De; have A := Gr.step Gq; clear Gq Ay Gr La
 refine s1 De (a_1 rfl De.e) fun Lc Df => ?_; clear De Lb
 refine n2 (m2 (s1 Df (a_0 rfl Df.e) fun Ld Dg => ?_)); clear Df Lc
 refine s1 Dg (e_2 rfl Dg.e (evc _ _)) fun Le Dh => ?_; clear Dg Ld
 refine s1 Dh (a_0 rfl Dh.e) fun G2 b => ?_; clear Dh Le
 by_cases Gs : pos < 0
 ·skip
  rw [decide_eq_true Gs] at b
  refine s3 b fun Lf GM => ?_; clear b G2
  refine s3 GM fun Lg GN => ?_; clear GM Lf
  refine s3 GN fun Lh Di => ?_; clear GN Lg
  refine s1 Di (a_6 rfl Di.e (evc _ _)) fun Li Dj => ?_; clear Di Lh
  refine s1 Dj (a_0 rfl Dj.e) fun Lj GO => ?_; clear Dj Li
  refine s3 GO fun Lk GP => ?_; clear GO Lj
  refine s3 GP fun Ll GQ => ?_; clear GP Lk
  refine s3 GQ fun Lm GR => ?_; clear GQ Ll
  refine s3 GR fun Ln GS => ?_; clear GR Lm
  refine s3 GS fun Lo Dk => ?_; clear GS Ln
  refine s1 Dk (a_6 rfl Dk.e (evc _ _)) fun Lp Dl => ?_; clear Dk Lo
  refine s1 Dl (a_0 rfl Dl.e) fun Lq GT => ?_; clear Dl Lp
  refine s3 GT fun Lr GU => ?_; clear GT Lq
  refine s3 GU fun Ls GV => ?_; clear GU Lr
  refine s3 GV fun Lt GW => ?_; clear GV Ls
  refine s3 GW fun Lu GX => ?_; clear GW Lt
  refine s3 GX fun Lv GY => ?_; clear GX Lu
  refine s3 GY fun Lw GZ => ?_; clear GY Lv
  refine s4 GZ fun Lx Ga => ?_; clear GZ Lw
  refine s4 Ga fun Ly Gb => ?_; clear Ga Lx
  refine s4 Gb fun Lz Gc => ?_; clear Gb Ly
  refine s4 Gc fun L0 Gd => ?_; clear Gc Lz
  refine s4 Gd fun L1 Gf => ?_; clear Gd L0
  refine s4 Gf fun L2 Gg => ?_; clear Gf L1
  refine s3 Gg fun L3 Dm => ?_; clear Gg L2
  refine s1 Dm (a_6 rfl Dm.e (evc _ _)) fun L4 Dn => ?_; clear Dm L3
  refine s1 Dn (a_0 rfl Dn.e) fun L5 Gh => ?_; clear Dn L4
  refine s3 Gh fun L6 Gi => ?_; clear Gh L5
  refine s3 Gi fun L7 Gj => ?_; clear Gi L6
  refine s3 Gj fun L8 Gk => ?_; clear Gj L7
  refine s4 Gk fun L9 Gl => ?_; clear Gk L8
  refine s4 Gl fun MA Gm => ?_; clear Gl L9
  refine s3 Gm fun MB Do => ?_; clear Gm MA
  refine s1 Do (a_6 rfl Do.e (evc _ _)) fun MC Dp => ?_; clear Do MB
  refine n1 (c_1 Dp rfl (b_6 ?_))
  have Go := Dp.as [] rfl; clear Dp
  refine a_5 (s1 Go (a_1 rfl (evc _ _)) fun M9 Gp => ?_); clear Go MC
  refine n1 (c_3 (b_1 (a_9 Gp (.inl rfl) (a_4 Gp rfl (.tmp rfl)) ?_)))
  exact ⟨A.ext, by rw [show a_7 q a pos saw = [] from (by first | exact f_0 (by unfold nopart; omega) | exact f_6 (by unfold nopart; omega) (by omega) (by omega) | (by_cases hz_ : saw = 0; exact f_0 (by unfold nopart; omega); exact f_6 (by unfold nopart; omega) (by omega) (by omega)))]; exact (A.i_4 78 4).g_7 (i := 0) rfl⟩
 skip
 rw [decide_eq_false Gs] at b
 refine s5 b (a_0 rfl b.e) fun MD Dq => ?_; clear b G2
 refine s5 Dq (a_0 rfl Dq.e) fun ME g => ?_; clear Dq MD
 refine s5 g (h_4 rfl g.e g.e) fun G5 h => ?_; clear g ME
 refine s1 h (a_8 rfl h.e h.e) fun G6 Ax => ?_; clear h G5
 refine s1 Ax (a_0 rfl Ax.e) fun F6 L => ?_; clear Ax G6
 by_cases Fq : (farF q a) < pos
 ·skip
  rw [decide_eq_true Fq] at L
  refine s3 L fun G7 Dr => ?_; clear L F6
  refine s3 Dr fun G8 Ds => ?_; clear Dr G7
  refine s3 Ds fun G9 Dt => ?_; clear Ds G8
  refine s3 Dt fun HA Du => ?_; clear Dt G9
  refine s3 Du fun HB Az => ?_; clear Du HA
  refine s1 Az (a_6 rfl Az.e (evc _ _)) fun HC A0 => ?_; clear Az HB
  refine s1 A0 (a_0 rfl A0.e) fun HD Dv => ?_; clear A0 HC
  refine s3 Dv fun HE Dw => ?_; clear Dv HD
  refine s3 Dw fun HF Dx => ?_; clear Dw HE
  refine s3 Dx fun HG Dy => ?_; clear Dx HF
  refine s3 Dy fun HH Dz => ?_; clear Dy HG
  refine s3 Dz fun HI D0 => ?_; clear Dz HH
  refine s3 D0 fun HJ D1 => ?_; clear D0 HI
  refine s4 D1 fun HK D2 => ?_; clear D1 HJ
  refine s4 D2 fun HL D3 => ?_; clear D2 HK
  refine s4 D3 fun HM D4 => ?_; clear D3 HL
  refine s4 D4 fun HN D5 => ?_; clear D4 HM
  refine s4 D5 fun HO D6 => ?_; clear D5 HN
  refine s4 D6 fun HP D7 => ?_; clear D6 HO
  refine s3 D7 fun HQ A1 => ?_; clear D7 HP
  refine s1 A1 (a_6 rfl A1.e (evc _ _)) fun HR A2 => ?_; clear A1 HQ
  refine s1 A2 (a_0 rfl A2.e) fun HS D8 => ?_; clear A2 HR
  refine s3 D8 fun HT D9 => ?_; clear D8 HS
  refine s3 D9 fun HU EA => ?_; clear D9 HT
  refine s3 EA fun HV EB => ?_; clear EA HU
  refine s4 EB fun HW EC => ?_; clear EB HV
  refine s4 EC fun HX ED => ?_; clear EC HW
  refine s3 ED fun HY A3 => ?_; clear ED HX
  refine s1 A3 (a_6 rfl A3.e (evc _ _)) fun HZ A4 => ?_; clear A3 HY
  refine n1 (c_1 A4 rfl (b_6 ?_))
  have EE := A4.as [] rfl; clear A4
  refine a_5 (s1 EE (a_1 rfl (evc _ _)) fun MG EF => ?_); clear EE HZ
  refine n1 (c_3 (b_1 (a_9 EF (.inl rfl) (a_4 EF rfl (.tmp rfl)) ?_)))
  exact ⟨A.ext, by rw [show a_7 q a pos saw = [] from (by first | exact f_0 (by unfold nopart; omega) | exact f_6 (by unfold nopart; omega) (by omega) (by omega) | (by_cases hz_ : saw = 0; exact f_0 (by unfold nopart; omega); exact f_6 (by unfold nopart; omega) (by omega) (by omega)))]; exact (A.i_4 78 4).g_7 (i := 0) rfl⟩
 skip
 rw [decide_eq_false Fq] at L
 refine s5 L (a_0 rfl L.e) fun Ha A5 => ?_; clear L F6
 refine s5 A5 (a_0 rfl A5.e) fun Hb j => ?_; clear A5 Ha
 refine s5 j (c_6 rfl j.e j.e (by omega) (by omega)) fun Hc A6 => ?_; clear j Hb
 refine s5 A6 (a_0 rfl A6.e) fun Hd k => ?_; clear A6 Hc
 refine s5 k (h_4 rfl k.e k.e) fun He m => ?_; clear k Hd
 refine s1 m (a_8 rfl m.e m.e) fun Hf A7 => ?_; clear m He
 refine s1 A7 (a_0 rfl A7.e) fun F7 M => ?_; clear A7 Hf
 by_cases Fs : (farF q a) < (pos + saw)
 ·skip
  rw [decide_eq_true Fs] at M
  refine s3 M fun Hg EG => ?_; clear M F7
  refine s3 EG fun Hh EH => ?_; clear EG Hg
  refine s3 EH fun Hi EI => ?_; clear EH Hh
  refine s3 EI fun Hj EJ => ?_; clear EI Hi
  refine s3 EJ fun Hk EK => ?_; clear EJ Hj
  refine s3 EK fun Hl EL => ?_; clear EK Hk
  refine s4 EL fun Hm EM => ?_; clear EL Hl
  refine s4 EM fun Hn EN => ?_; clear EM Hm
  refine s4 EN fun Ho EO => ?_; clear EN Hn
  refine s4 EO fun Hp EP => ?_; clear EO Ho
  refine s4 EP fun Hq EQ => ?_; clear EP Hp
  refine s4 EQ fun Hr ER => ?_; clear EQ Hq
  refine s3 ER fun Hs A8 => ?_; clear ER Hr
  refine s1 A8 (a_6 rfl A8.e (evc _ _)) fun Ht A9 => ?_; clear A8 Hs
  refine s1 A9 (a_0 rfl A9.e) fun Hu ES => ?_; clear A9 Ht
  refine s3 ES fun Hv ET => ?_; clear ES Hu
  refine s3 ET fun Hw EU => ?_; clear ET Hv
  refine s3 EU fun Hx EV => ?_; clear EU Hw
  refine s4 EV fun Hy EW => ?_; clear EV Hx
  refine s4 EW fun Hz EX => ?_; clear EW Hy
  refine s3 EX fun H0 BA => ?_; clear EX Hz
  refine s1 BA (a_6 rfl BA.e (evc _ _)) fun H1 BB => ?_; clear BA H0
  refine n1 (c_1 BB rfl (b_6 ?_))
  have EY := BB.as [] rfl; clear BB
  refine a_5 (s1 EY (a_1 rfl (evc _ _)) fun MH EZ => ?_); clear EY H1
  refine n1 (c_3 (b_1 (a_9 EZ (.inl rfl) (a_4 EZ rfl (.tmp rfl)) ?_)))
  exact ⟨A.ext, by rw [show a_7 q a pos saw = [] from (by first | exact f_0 (by unfold nopart; omega) | exact f_6 (by unfold nopart; omega) (by omega) (by omega) | (by_cases hz_ : saw = 0; exact f_0 (by unfold nopart; omega); exact f_6 (by unfold nopart; omega) (by omega) (by omega)))]; exact (A.i_4 78 4).g_7 (i := 0) rfl⟩
 skip
 rw [decide_eq_false Fs] at M
 refine s5 M (a_0 rfl M.e) fun H2 BC => ?_; clear M F7
 refine s5 BC (a_0 rfl BC.e) fun H3 o => ?_; clear BC H2
 refine s5 o (c_6 rfl o.e o.e (by omega) (by omega)) fun H4 BD => ?_; clear o H3
 refine s5 BD (a_0 rfl BD.e) fun H5 p => ?_; clear BD H4
 refine s5 p (f_5 rfl p.e p.e) fun H6 BE => ?_; clear p H5
 refine s5 BE (a_0 rfl BE.e) fun F8 N => ?_; clear BE H6
 by_cases Ft : (pos + saw) = (farF q a)
 ·skip
  rw [decide_eq_true Ft] at N
  refine s5 N (a_0 rfl N.e) fun H7 BF => ?_; clear N F8
  refine s5 BF (f_5 rfl BF.e (evc _ _)) fun H8 BG => ?_; clear BF H7
  refine s5 BG (a_0 rfl BG.e) fun F9 O => ?_; clear BG H8
  by_cases Dc : pos = 0
  ·skip
   rw [decide_eq_true Dc] at O
   refine s3 O fun H9 Ea => ?_; clear O F9
   refine s3 Ea fun IA BH => ?_; clear Ea H9
   refine s5 BH (a_6 rfl BH.e (evc _ _)) fun IB r => ?_; clear BH IA
   refine s5 r (a_6 rfl r.e r.e) fun IC s => ?_; clear r IB
   refine s1 s (a_8 rfl s.e s.e) fun ID BI => ?_; clear s IC
   refine s1 BI (a_0 rfl BI.e) fun IE Eb => ?_; clear BI ID
   refine s3 Eb fun IF Ec => ?_; clear Eb IE
   refine s3 Ec fun IG Ed => ?_; clear Ec IF
   refine s3 Ed fun IH Ee => ?_; clear Ed IG
   refine s4 Ee fun II Ef => ?_; clear Ee IH
   refine s4 Ef fun IJ Eg => ?_; clear Ef II
   refine s3 Eg fun IK BJ => ?_; clear Eg IJ
   refine s1 BJ (a_6 rfl BJ.e (evc _ _)) fun IL BK => ?_; clear BJ IK
   refine n1 (c_1 BK rfl (b_6 ?_))
   have Eh := BK.as [] rfl; clear BK
   refine a_5 (s1 Eh (a_1 rfl (evc _ _)) fun MI Ei => ?_); clear Eh IL
   refine n1 (c_3 (b_1 (a_9 Ei (.inl rfl) (a_4 Ei rfl (.tmp rfl)) ?_)))
   exact ⟨A.ext, by rw [show a_7 q a pos saw = [] from (by first | exact f_0 (by unfold nopart; omega) | exact f_6 (by unfold nopart; omega) (by omega) (by omega) | (by_cases hz_ : saw = 0; exact f_0 (by unfold nopart; omega); exact f_6 (by unfold nopart; omega) (by omega) (by omega)))]; exact (A.i_4 78 4).g_7 (i := 0) rfl⟩
  skip
  rw [decide_eq_false Dc] at O
  refine s5 O (a_0 rfl O.e) fun IM BL => ?_; clear O F9
  refine s5 BL (f_5 rfl BL.e (evc _ _)) fun IN t => ?_; clear BL IM
  refine s5 t (a_8 rfl t.e t.e) fun IOa u => ?_; clear t IN
  refine s5 u (a_6 rfl u.e u.e) fun IP z => ?_; clear u IOa
  refine s1 z (a_8 rfl z.e z.e) fun IQ BM => ?_; clear z IP
  refine s1 BM (a_0 rfl BM.e) fun GA P => ?_; clear BM IQ
  by_cases Fu : saw = 0
  ·skip
   rw [decide_eq_true Fu] at P
   refine s3 P fun IR Ej => ?_; clear P GA
   refine s3 Ej fun IS Ek => ?_; clear Ej IR
   refine s3 Ek fun IT El => ?_; clear Ek IS
   refine s4 El fun IU Em => ?_; clear El IT
   refine s4 Em fun IV En => ?_; clear Em IU
   refine s3 En fun IW BN => ?_; clear En IV
   refine s1 BN (a_6 rfl BN.e (evc _ _)) fun IX BO => ?_; clear BN IW
   refine n1 (c_1 BO rfl (b_6 ?_))
   have Eo := BO.as [] rfl; clear BO
   refine a_5 (s1 Eo (a_1 rfl (evc _ _)) fun MJ Ep => ?_); clear Eo IX
   refine n1 (c_3 (b_1 (a_9 Ep (.inl rfl) (a_4 Ep rfl (.tmp rfl)) ?_)))
   exact ⟨A.ext, by rw [show a_7 q a pos saw = [] from (by first | exact f_0 (by unfold nopart; omega) | exact f_6 (by unfold nopart; omega) (by omega) (by omega) | (by_cases hz_ : saw = 0; exact f_0 (by unfold nopart; omega); exact f_6 (by unfold nopart; omega) (by omega) (by omega)))]; exact (A.i_4 78 4).g_7 (i := 0) rfl⟩
  skip
  rw [decide_eq_false Fu] at P
  refine s5 P (a_0 rfl P.e) fun IY BP => ?_; clear P GA
  refine s5 BP (f_5 rfl BP.e (evc _ _)) fun IZ AA => ?_; clear BP IY
  rw [decide_eq_false Dc] at AA
  refine s5 AA (a_0 rfl AA.e) fun Ia Eq => ?_; clear AA IZ
  refine s3 Eq fun Ib Er => ?_; clear Eq Ia
  refine s3 Er fun Ic BQ => ?_; clear Er Ib
  refine s5 BQ (a_8 rfl BQ.e (evc _ _)) fun Id AB => ?_; clear BQ Ic
  refine s1 AB (a_8 rfl AB.e AB.e) fun Ie BR => ?_; clear AB Id
  refine n1 (b_3 BR rfl (c_0 (b_0 (b_6 ?_))))
  have Es := BR.as [(9, (iv (farF q a))), (4, (bptr b4 0)), (1, (Value.bool a)), (2, (iv pos)), (3, (iv saw))] rfl; clear BR
  refine a_5 (s1 Es (a_1 rfl (evc _ _)) fun If BS => ?_); clear Es Ie
  have R := A.i_4 78 4; clear A
  refine n2 (m2 (s1 BS (a_0 rfl BS.e) fun Ig BT => ?_)); clear BS If
  refine s1 BT (h_4 rfl BT.e (evc _ _)) fun GB B => ?_; clear BT Ig
  refine n1 ?_
  by_cases Fv : 0 < pos
  ·skip
   rw [decide_eq_true Fv] at B
   refine c_1 B rfl (a_5 (s1 B (a_0 rfl B.e) fun Ih BU => ?_)); clear B GB
   refine s1 BU (c_2 rfl h_9 (BU.ev rfl) (R.bk 1 rfl) (l := [(iv q.x), (iv q.y), (iv q.w), (iv q.l)]) rfl rfl) fun Ii BV => ?_; clear BU Ih
   refine s1 BV (a_0 rfl BV.e) fun Ij BW => ?_; clear BV Ii
   refine s1 BW (a_0 rfl BW.e) fun Ik c => ?_; clear BW Ij
   refine s2 c (b_5 rfl en_40 (ev4 c.e c.e (evc _ _) c.e) (o_9 q a 0 pos hq (by omega) _)) ?_
   rintro Il _ Mi ⟨rfl, FO⟩ BX; have FY := R.step FO; clear FO c R Ik
   refine s2 BX (c_7 FY rfl (pv1 BX.e) j_0 h_9 r_7 (by decide) (cs := [(iv ((d_4 q a 0 pos).x)), (iv ((d_4 q a 0 pos).y)), (iv ((d_4 q a 0 pos).w)), (iv ((d_4 q a 0 pos).l))]) (f_2 _ _ _ _)) ?_
   rintro Im _ Mj ⟨MZ, rfl, DT⟩ AC; clear BX FY Il
   refine s2 AC (e_9 DT rfl j_0 el_78 AC.e AC.e (i := 1) rfl (SlAt.h_3 (n := 1) (DT.bk 0 rfl) rfl (Nat.le_of_ble_eq_true rfl)) rfl (by first | decide | (simp only [List.nil_append, List.length_singleton, maxLen]; decide)) (by first | decide | (simp only [List.nil_append, List.length_singleton]; decide))) ?_
   intro In Gt Mk FZ BY
   have At := FZ.c_5 (i := 1) rfl (n' := (([] : List Quad) ++ [(d_4 q a 0 pos)]).length) (xs' := (recC d_5 (([] : List Quad) ++ [(d_4 q a 0 pos)]))) (g_4 ([] : List Quad) (d_4 q a 0 pos)) (g_9 d_5 ([] : List Quad) (d_4 q a 0 pos)); clear FZ AC DT Im
   refine s1 BY (a_1 rfl BY.e) fun Io Et => ?_; clear BY In
   refine n2 (b_6 ?_)
   have BZ := Et.as [(10, Gt), (9, (iv (farF q a))), (4, (bptr b4 0)), (1, (Value.bool a)), (2, (iv pos)), (3, (iv saw))] rfl; clear Et
   refine a_5 (s1 BZ (a_0 rfl BZ.e) fun Ip Ba => ?_); clear BZ Io
   refine s1 Ba (a_0 rfl Ba.e) fun Iq AD => ?_; clear Ba Ip
   refine s1 AD (c_6 rfl AD.e AD.e (by omega) (by omega)) fun Ir Bb => ?_; clear AD Iq
   refine s1 Bb (a_0 rfl Bb.e) fun Is AE => ?_; clear Bb Ir
   refine s1 AE (e_2 rfl AE.e AE.e) fun GC E => ?_; clear AE Is
   refine n1 ?_
   by_cases Fw : (pos + saw) < (farF q a)
   ·skip
    rw [decide_eq_true Fw] at E
    refine c_1 E rfl (a_5 (s1 E (a_0 rfl E.e) fun It Bc => ?_)); clear E GC
    refine s1 Bc (c_2 rfl h_9 (Bc.ev rfl) (At.bk 2 rfl) (l := [(iv q.x), (iv q.y), (iv q.w), (iv q.l)]) rfl rfl) fun Iu Bd => ?_; clear Bc It
    refine s1 Bd (a_0 rfl Bd.e) fun Iv Be => ?_; clear Bd Iu
    refine s1 Be (a_0 rfl Be.e) fun Iw Bf => ?_; clear Be Iv
    refine s1 Bf (a_0 rfl Bf.e) fun Ix AF => ?_; clear Bf Iw
    refine s1 AF (c_6 rfl AF.e AF.e (by omega) (by omega)) fun Iy Bg => ?_; clear AF Ix
    refine s1 Bg (a_0 rfl Bg.e) fun Iz Bh => ?_; clear Bg Iy
    refine s1 Bh (a_0 rfl Bh.e) fun I0 AG => ?_; clear Bh Iz
    refine s1 AG (f_9 rfl AG.e AG.e (by omega) (by omega)) fun I1 Bi => ?_; clear AG I0
    refine s1 Bi (a_0 rfl Bi.e) fun I2 AH => ?_; clear Bi I1
    refine s1 AH (f_9 rfl AH.e AH.e (by omega) (by omega)) fun I3 U => ?_; clear AH I2
    refine s2 U (b_5 rfl en_40 (ev4 U.e U.e U.e U.e) (o_9 q a (pos + saw) (((farF q a) - pos) - saw) hq (by omega) _)) ?_
    rintro I4 _ Ml ⟨rfl, FP⟩ Bj; have Fa := At.step FP; clear FP U At I3
    refine s2 Bj (c_7 Fa rfl (pv1 Bj.e) j_0 h_9 r_7 (by decide) (cs := [(iv ((d_4 q a (pos + saw) (((farF q a) - pos) - saw)).x)), (iv ((d_4 q a (pos + saw) (((farF q a) - pos) - saw)).y)), (iv ((d_4 q a (pos + saw) (((farF q a) - pos) - saw)).w)), (iv ((d_4 q a (pos + saw) (((farF q a) - pos) - saw)).l))]) (f_2 _ _ _ _)) ?_
    rintro I5 _ Mm ⟨Ma, rfl, DU⟩ AI; clear Bj Fa I4
    refine s2 AI (e_9 DU rfl j_0 el_78 AI.e AI.e (i := 2) rfl (SlAt.h_3 (n := 1) (DU.bk 0 rfl) rfl (Nat.le_of_ble_eq_true rfl)) rfl (by first | decide | (simp only [List.nil_append, List.length_singleton, maxLen]; decide)) (by first | decide | (simp only [List.nil_append, List.length_singleton]; decide))) ?_
    intro I6 LT Mn Fb Bk
    have Gw := Fb.c_5 (i := 2) rfl (n' := ((([] : List Quad) ++ [(d_4 q a 0 pos)]) ++ [(d_4 q a (pos + saw) (((farF q a) - pos) - saw))]).length) (xs' := (recC d_5 ((([] : List Quad) ++ [(d_4 q a 0 pos)]) ++ [(d_4 q a (pos + saw) (((farF q a) - pos) - saw))]))) (g_4 (([] : List Quad) ++ [(d_4 q a 0 pos)]) (d_4 q a (pos + saw) (((farF q a) - pos) - saw))) (g_9 d_5 (([] : List Quad) ++ [(d_4 q a 0 pos)]) (d_4 q a (pos + saw) (((farF q a) - pos) - saw))); clear Fb AI DU I5
    refine s1 Bk (a_1 rfl Bk.e) fun I7 Eu => ?_; clear Bk I6
    refine n2 ?_
    have Bl := Eu.as [(10, LT)] rfl; clear Eu
    refine a_5 (s1 Bl (a_0 rfl Bl.e) fun I8 Bm => ?_); clear Bl I7
    refine s1 Bm (a_1 rfl Bm.e) fun MK Ev => ?_; clear Bm I8
    refine n1 (c_3 (a_9 Ev (.inl rfl) (a_4 Ev rfl (.tmp rfl)) ?_))
    have hz := Gw.c_5 (i := 2) rfl (n' := (a_7 q a pos saw).length) (xs' := recC d_5 (a_7 q a pos saw)) (by rw [l_3 (by unfold nopart; omega) (by omega) (by omega)]; rfl) (by rw [l_3 (by unfold nopart; omega) (by omega) (by omega)]; rfl)
    exact ⟨hz.ext, hz.g_7 (i := 2) rfl⟩
   skip
   rw [decide_eq_false Fw] at E
   refine b_3 E rfl (c_0 (b_0 (b_6 ?_)))
   have Bn := E.as [(10, Gt)] rfl; clear E
   refine a_5 (s1 Bn (a_0 rfl Bn.e) fun I9 Bo => ?_); clear Bn GC
   refine s1 Bo (a_1 rfl Bo.e) fun ML Ew => ?_; clear Bo I9
   refine n1 (c_3 (a_9 Ew (.inl rfl) (a_4 Ew rfl (.tmp rfl)) ?_))
   have hz := At.c_5 (i := 1) rfl (n' := (a_7 q a pos saw).length) (xs' := recC d_5 (a_7 q a pos saw)) (by rw [k_5 (by unfold nopart; omega) (by omega) (by omega)]; rfl) (by rw [k_5 (by unfold nopart; omega) (by omega) (by omega)]; rfl)
   exact ⟨hz.ext, hz.g_7 (i := 1) rfl⟩
  skip
  rw [decide_eq_false Fv] at B
  refine b_3 B rfl (c_0 (b_0 (b_6 (m2 (s1 B (a_0 rfl B.e) fun JA Bp => ?_))))); clear B GB
  refine s1 Bp (a_0 rfl Bp.e) fun JB AJ => ?_; clear Bp JA
  refine s1 AJ (c_6 rfl AJ.e AJ.e (by omega) (by omega)) fun JC Bq => ?_; clear AJ JB
  refine s1 Bq (a_0 rfl Bq.e) fun JD AK => ?_; clear Bq JC
  refine s1 AK (e_2 rfl AK.e AK.e) fun GD H => ?_; clear AK JD
  refine n1 ?_
  by_cases Fx : (pos + saw) < (farF q a)
  ·skip
   rw [decide_eq_true Fx] at H
   refine c_1 H rfl ?_
   have Br := H.as [(10, (Value.slice none 0 0)), (9, (iv (farF q a))), (4, (bptr b4 0)), (1, (Value.bool a)), (2, (iv pos)), (3, (iv saw))] rfl; clear H
   refine a_5 (s1 Br (a_0 rfl Br.e) fun JE Bs => ?_); clear Br GD
   refine s1 Bs (c_2 rfl h_9 (Bs.ev rfl) (R.bk 1 rfl) (l := [(iv q.x), (iv q.y), (iv q.w), (iv q.l)]) rfl rfl) fun JF Bt => ?_; clear Bs JE
   refine s1 Bt (a_0 rfl Bt.e) fun JG Bu => ?_; clear Bt JF
   refine s1 Bu (a_0 rfl Bu.e) fun JH Bv => ?_; clear Bu JG
   refine s1 Bv (a_0 rfl Bv.e) fun JI AL => ?_; clear Bv JH
   refine s1 AL (c_6 rfl AL.e AL.e (by omega) (by omega)) fun JJ Bw => ?_; clear AL JI
   refine s1 Bw (a_0 rfl Bw.e) fun JK Bx => ?_; clear Bw JJ
   refine s1 Bx (a_0 rfl Bx.e) fun JL AM => ?_; clear Bx JK
   refine s1 AM (f_9 rfl AM.e AM.e (by omega) (by omega)) fun JM By => ?_; clear AM JL
   refine s1 By (a_0 rfl By.e) fun JN AN => ?_; clear By JM
   refine s1 AN (f_9 rfl AN.e AN.e (by omega) (by omega)) fun JO V => ?_; clear AN JN
   refine s2 V (b_5 rfl en_40 (ev4 V.e V.e V.e V.e) (o_9 q a (pos + saw) (((farF q a) - pos) - saw) hq (by omega) _)) ?_
   rintro JP _ Mo ⟨rfl, FQ⟩ Bz; have Fc := R.step FQ; clear FQ V R JO
   refine s2 Bz (c_7 Fc rfl (pv1 Bz.e) j_0 h_9 r_7 (by decide) (cs := [(iv ((d_4 q a (pos + saw) (((farF q a) - pos) - saw)).x)), (iv ((d_4 q a (pos + saw) (((farF q a) - pos) - saw)).y)), (iv ((d_4 q a (pos + saw) (((farF q a) - pos) - saw)).w)), (iv ((d_4 q a (pos + saw) (((farF q a) - pos) - saw)).l))]) (f_2 _ _ _ _)) ?_
   rintro JQ _ Mp ⟨Mb, rfl, DV⟩ AO; clear Bz Fc JP
   refine s2 AO (e_9 DV rfl j_0 el_78 AO.e AO.e (i := 1) rfl (SlAt.h_3 (n := 1) (DV.bk 0 rfl) rfl (Nat.le_of_ble_eq_true rfl)) rfl (by first | decide | (simp only [List.nil_append, List.length_singleton, maxLen]; decide)) (by first | decide | (simp only [List.nil_append, List.length_singleton]; decide))) ?_
   intro JR LU Mq Fd B0
   have Gx := Fd.c_5 (i := 1) rfl (n' := (([] : List Quad) ++ [(d_4 q a (pos + saw) (((farF q a) - pos) - saw))]).length) (xs' := (recC d_5 (([] : List Quad) ++ [(d_4 q a (pos + saw) (((farF q a) - pos) - saw))]))) (g_4 ([] : List Quad) (d_4 q a (pos + saw) (((farF q a) - pos) - saw))) (g_9 d_5 ([] : List Quad) (d_4 q a (pos + saw) (((farF q a) - pos) - saw))); clear Fd AO DV JQ
   refine s1 B0 (a_1 rfl B0.e) fun JS Ex => ?_; clear B0 JR
   refine n2 ?_
   have B1 := Ex.as [(10, LU)] rfl; clear Ex
   refine a_5 (s1 B1 (a_0 rfl B1.e) fun JT B2 => ?_); clear B1 JS
   refine s1 B2 (a_1 rfl B2.e) fun MM Ey => ?_; clear B2 JT
   refine n1 (c_3 (a_9 Ey (.inl rfl) (a_4 Ey rfl (.tmp rfl)) ?_))
   have hz := Gx.c_5 (i := 1) rfl (n' := (a_7 q a pos saw).length) (xs' := recC d_5 (a_7 q a pos saw)) (by rw [k_4 (by unfold nopart; omega) (by omega) (by omega)]; rfl) (by rw [k_4 (by unfold nopart; omega) (by omega) (by omega)]; rfl)
   exact ⟨hz.ext, hz.g_7 (i := 1) rfl⟩
  skip
  rw [decide_eq_false Fx] at H
  refine b_3 H rfl (c_0 (b_0 (b_6 ?_)))
  have B3 := H.as [(10, (Value.slice none 0 0))] rfl; clear H
  refine a_5 (s1 B3 (a_0 rfl B3.e) fun JU B4 => ?_); clear B3 GD
  refine s1 B4 (a_1 rfl B4.e) fun MN Ez => ?_; clear B4 JU
  refine n1 (c_3 (a_9 Ez (.inl rfl) (a_4 Ez rfl (.tmp rfl)) ?_))
  have hz := R.c_5 (i := 0) rfl (n' := (a_7 q a pos saw).length) (xs' := recC d_5 (a_7 q a pos saw)) (by rw [f_6 (by unfold nopart; omega) (by omega) (by omega)]; rfl) (by rw [f_6 (by unfold nopart; omega) (by omega) (by omega)]; rfl)
  exact ⟨hz.ext, hz.g_7 (i := 0) rfl⟩
 skip
 rw [decide_eq_false Ft] at N
 refine s3 N fun JV E0 => ?_; clear N F8
 refine s3 E0 fun JW E1 => ?_; clear E0 JV
 refine s3 E1 fun JX E2 => ?_; clear E1 JW
 refine s4 E2 fun JY E3 => ?_; clear E2 JX
 refine s4 E3 fun JZ E4 => ?_; clear E3 JY
 refine s3 E4 fun Ja B5 => ?_; clear E4 JZ
 refine s5 B5 (a_8 rfl B5.e (evc _ _)) fun Jb AP => ?_; clear B5 Ja
 refine s1 AP (a_8 rfl AP.e AP.e) fun Jc B6 => ?_; clear AP Jb
 refine s1 B6 (a_0 rfl B6.e) fun Jd B7 => ?_; clear B6 Jc
 refine s5 B7 (a_0 rfl B7.e) fun Je B8 => ?_; clear B7 Jd
 refine s5 B8 (f_5 rfl B8.e (evc _ _)) fun Jf B9 => ?_; clear B8 Je
 refine s5 B9 (a_0 rfl B9.e) fun GE Q => ?_; clear B9 Jf
 by_cases Fy : pos = 0
 ·skip
  rw [decide_eq_true Fy] at Q
  refine s5 Q (a_0 rfl Q.e) fun Jg CA => ?_; clear Q GE
  refine s5 CA (f_5 rfl CA.e (evc _ _)) fun Jh AQ => ?_; clear CA Jg
  refine s5 AQ (a_6 rfl AQ.e AQ.e) fun Ji AR => ?_; clear AQ Jh
  refine s1 AR (a_8 rfl AR.e AR.e) fun GF I => ?_; clear AR Ji
  refine n1 ?_
  by_cases Fz : saw = 0
  ·skip
   rw [decide_eq_true Fz] at I
   refine c_1 I rfl (b_6 ?_)
   have E5 := I.as [] rfl; clear I
   refine a_5 (s1 E5 (a_1 rfl (evc _ _)) fun MO E6 => ?_); clear E5 GF
   refine n1 (c_3 (b_1 (a_9 E6 (.inl rfl) (a_4 E6 rfl (.tmp rfl)) ?_)))
   exact ⟨A.ext, by rw [show a_7 q a pos saw = [] from (by first | exact f_0 (by unfold nopart; omega) | exact f_6 (by unfold nopart; omega) (by omega) (by omega) | (by_cases hz_ : saw = 0; exact f_0 (by unfold nopart; omega); exact f_6 (by unfold nopart; omega) (by omega) (by omega)))]; exact (A.i_4 78 4).g_7 (i := 0) rfl⟩
  skip
  rw [decide_eq_false Fz] at I
  refine b_3 I rfl (c_0 (b_0 (b_6 ?_)))
  have E7 := I.as [(9, (iv (farF q a))), (4, (bptr b4 0)), (1, (Value.bool a)), (2, (iv pos)), (3, (iv saw))] rfl; clear I
  refine a_5 (s1 E7 (a_1 rfl (evc _ _)) fun Jj CB => ?_); clear E7 GF
  have S := A.i_4 78 4; clear A
  refine n2 (m2 (s1 CB (a_0 rfl CB.e) fun Jk CC => ?_)); clear CB Jj
  refine s1 CC (h_4 rfl CC.e (evc _ _)) fun GG C => ?_; clear CC Jk
  refine n1 ?_
  by_cases F0 : 0 < pos
  ·skip
   rw [decide_eq_true F0] at C
   refine c_1 C rfl (a_5 (s1 C (a_0 rfl C.e) fun Jl CD => ?_)); clear C GG
   refine s1 CD (c_2 rfl h_9 (CD.ev rfl) (S.bk 1 rfl) (l := [(iv q.x), (iv q.y), (iv q.w), (iv q.l)]) rfl rfl) fun Jm CE => ?_; clear CD Jl
   refine s1 CE (a_0 rfl CE.e) fun Jn CF => ?_; clear CE Jm
   refine s1 CF (a_0 rfl CF.e) fun Jo d => ?_; clear CF Jn
   refine s2 d (b_5 rfl en_40 (ev4 d.e d.e (evc _ _) d.e) (o_9 q a 0 pos hq (by omega) _)) ?_
   rintro Jp _ Mr ⟨rfl, FSa⟩ CG; have Fe := S.step FSa; clear FSa d S Jo
   refine s2 CG (c_7 Fe rfl (pv1 CG.e) j_0 h_9 r_7 (by decide) (cs := [(iv ((d_4 q a 0 pos).x)), (iv ((d_4 q a 0 pos).y)), (iv ((d_4 q a 0 pos).w)), (iv ((d_4 q a 0 pos).l))]) (f_2 _ _ _ _)) ?_
   rintro Jq _ Ms ⟨Mc, rfl, DW⟩ AS; clear CG Fe Jp
   refine s2 AS (e_9 DW rfl j_0 el_78 AS.e AS.e (i := 1) rfl (SlAt.h_3 (n := 1) (DW.bk 0 rfl) rfl (Nat.le_of_ble_eq_true rfl)) rfl (by first | decide | (simp only [List.nil_append, List.length_singleton, maxLen]; decide)) (by first | decide | (simp only [List.nil_append, List.length_singleton]; decide))) ?_
   intro Jr Gu Mt Ff CH
   have Au := Ff.c_5 (i := 1) rfl (n' := (([] : List Quad) ++ [(d_4 q a 0 pos)]).length) (xs' := (recC d_5 (([] : List Quad) ++ [(d_4 q a 0 pos)]))) (g_4 ([] : List Quad) (d_4 q a 0 pos)) (g_9 d_5 ([] : List Quad) (d_4 q a 0 pos)); clear Ff AS DW Jq
   refine s1 CH (a_1 rfl CH.e) fun Js E8 => ?_; clear CH Jr
   refine n2 (b_6 ?_)
   have CI := E8.as [(10, Gu), (9, (iv (farF q a))), (4, (bptr b4 0)), (1, (Value.bool a)), (2, (iv pos)), (3, (iv saw))] rfl; clear E8
   refine a_5 (s1 CI (a_0 rfl CI.e) fun Jt CJ => ?_); clear CI Js
   refine s1 CJ (a_0 rfl CJ.e) fun Ju AT => ?_; clear CJ Jt
   refine s1 AT (c_6 rfl AT.e AT.e (by omega) (by omega)) fun Jv CK => ?_; clear AT Ju
   refine s1 CK (a_0 rfl CK.e) fun Jw AU => ?_; clear CK Jv
   refine s1 AU (e_2 rfl AU.e AU.e) fun GH F => ?_; clear AU Jw
   refine n1 ?_
   by_cases F1 : (pos + saw) < (farF q a)
   ·skip
    rw [decide_eq_true F1] at F
    refine c_1 F rfl (a_5 (s1 F (a_0 rfl F.e) fun Jx CL => ?_)); clear F GH
    refine s1 CL (c_2 rfl h_9 (CL.ev rfl) (Au.bk 2 rfl) (l := [(iv q.x), (iv q.y), (iv q.w), (iv q.l)]) rfl rfl) fun Jy CM => ?_; clear CL Jx
    refine s1 CM (a_0 rfl CM.e) fun Jz CN => ?_; clear CM Jy
    refine s1 CN (a_0 rfl CN.e) fun J0 CO => ?_; clear CN Jz
    refine s1 CO (a_0 rfl CO.e) fun J1 AV => ?_; clear CO J0
    refine s1 AV (c_6 rfl AV.e AV.e (by omega) (by omega)) fun J2 CP => ?_; clear AV J1
    refine s1 CP (a_0 rfl CP.e) fun J3 CQ => ?_; clear CP J2
    refine s1 CQ (a_0 rfl CQ.e) fun J4 AW => ?_; clear CQ J3
    refine s1 AW (f_9 rfl AW.e AW.e (by omega) (by omega)) fun J5 CR => ?_; clear AW J4
    refine s1 CR (a_0 rfl CR.e) fun J6 AX => ?_; clear CR J5
    refine s1 AX (f_9 rfl AX.e AX.e (by omega) (by omega)) fun J7 W => ?_; clear AX J6
    refine s2 W (b_5 rfl en_40 (ev4 W.e W.e W.e W.e) (o_9 q a (pos + saw) (((farF q a) - pos) - saw) hq (by omega) _)) ?_
    rintro J8 _ Mu ⟨rfl, FT⟩ CS; have Fg := Au.step FT; clear FT W Au J7
    refine s2 CS (c_7 Fg rfl (pv1 CS.e) j_0 h_9 r_7 (by decide) (cs := [(iv ((d_4 q a (pos + saw) (((farF q a) - pos) - saw)).x)), (iv ((d_4 q a (pos + saw) (((farF q a) - pos) - saw)).y)), (iv ((d_4 q a (pos + saw) (((farF q a) - pos) - saw)).w)), (iv ((d_4 q a (pos + saw) (((farF q a) - pos) - saw)).l))]) (f_2 _ _ _ _)) ?_
    rintro J9 _ Mv ⟨Md, rfl, DX⟩ AY; clear CS Fg J8
    refine s2 AY (e_9 DX rfl j_0 el_78 AY.e AY.e (i := 2) rfl (SlAt.h_3 (n := 1) (DX.bk 0 rfl) rfl (Nat.le_of_ble_eq_true rfl)) rfl (by first | decide | (simp only [List.nil_append, List.length_singleton, maxLen]; decide)) (by first | decide | (simp only [List.nil_append, List.length_singleton]; decide))) ?_
    intro KA LV Mw Fh CT
    have Gy := Fh.c_5 (i := 2) rfl (n' := ((([] : List Quad) ++ [(d_4 q a 0 pos)]) ++ [(d_4 q a (pos + saw) (((farF q a) - pos) - saw))]).length) (xs' := (recC d_5 ((([] : List Quad) ++ [(d_4 q a 0 pos)]) ++ [(d_4 q a (pos + saw) (((farF q a) - pos) - saw))]))) (g_4 (([] : List Quad) ++ [(d_4 q a 0 pos)]) (d_4 q a (pos + saw) (((farF q a) - pos) - saw))) (g_9 d_5 (([] : List Quad) ++ [(d_4 q a 0 pos)]) (d_4 q a (pos + saw) (((farF q a) - pos) - saw))); clear Fh AY DX J9
    refine s1 CT (a_1 rfl CT.e) fun KB E9 => ?_; clear CT KA
    refine n2 ?_
    have CU := E9.as [(10, LV)] rfl; clear E9
    refine a_5 (s1 CU (a_0 rfl CU.e) fun KC CV => ?_); clear CU KB
    refine s1 CV (a_1 rfl CV.e) fun MQ FA => ?_; clear CV KC
    refine n1 (c_3 (a_9 FA (.inl rfl) (a_4 FA rfl (.tmp rfl)) ?_))
    have hz := Gy.c_5 (i := 2) rfl (n' := (a_7 q a pos saw).length) (xs' := recC d_5 (a_7 q a pos saw)) (by rw [l_3 (by unfold nopart; omega) (by omega) (by omega)]; rfl) (by rw [l_3 (by unfold nopart; omega) (by omega) (by omega)]; rfl)
    exact ⟨hz.ext, hz.g_7 (i := 2) rfl⟩
   skip
   rw [decide_eq_false F1] at F
   refine b_3 F rfl (c_0 (b_0 (b_6 ?_)))
   have CW := F.as [(10, Gu)] rfl; clear F
   refine a_5 (s1 CW (a_0 rfl CW.e) fun KD CX => ?_); clear CW GH
   refine s1 CX (a_1 rfl CX.e) fun MR FB => ?_; clear CX KD
   refine n1 (c_3 (a_9 FB (.inl rfl) (a_4 FB rfl (.tmp rfl)) ?_))
   have hz := Au.c_5 (i := 1) rfl (n' := (a_7 q a pos saw).length) (xs' := recC d_5 (a_7 q a pos saw)) (by rw [k_5 (by unfold nopart; omega) (by omega) (by omega)]; rfl) (by rw [k_5 (by unfold nopart; omega) (by omega) (by omega)]; rfl)
   exact ⟨hz.ext, hz.g_7 (i := 1) rfl⟩
  skip
  rw [decide_eq_false F0] at C
  refine b_3 C rfl (c_0 (b_0 (b_6 (m2 (s1 C (a_0 rfl C.e) fun KE CY => ?_))))); clear C GG
  refine s1 CY (a_0 rfl CY.e) fun KF AZ => ?_; clear CY KE
  refine s1 AZ (c_6 rfl AZ.e AZ.e (by omega) (by omega)) fun KG CZ => ?_; clear AZ KF
  refine s1 CZ (a_0 rfl CZ.e) fun KH Aa => ?_; clear CZ KG
  refine s1 Aa (e_2 rfl Aa.e Aa.e) fun GI J => ?_; clear Aa KH
  refine n1 ?_
  by_cases F2 : (pos + saw) < (farF q a)
  ·skip
   rw [decide_eq_true F2] at J
   refine c_1 J rfl ?_
   have Ca := J.as [(10, (Value.slice none 0 0)), (9, (iv (farF q a))), (4, (bptr b4 0)), (1, (Value.bool a)), (2, (iv pos)), (3, (iv saw))] rfl; clear J
   refine a_5 (s1 Ca (a_0 rfl Ca.e) fun KI Cb => ?_); clear Ca GI
   refine s1 Cb (c_2 rfl h_9 (Cb.ev rfl) (S.bk 1 rfl) (l := [(iv q.x), (iv q.y), (iv q.w), (iv q.l)]) rfl rfl) fun KJ Cc => ?_; clear Cb KI
   refine s1 Cc (a_0 rfl Cc.e) fun KK Cd => ?_; clear Cc KJ
   refine s1 Cd (a_0 rfl Cd.e) fun KL Ce => ?_; clear Cd KK
   refine s1 Ce (a_0 rfl Ce.e) fun KM Ab => ?_; clear Ce KL
   refine s1 Ab (c_6 rfl Ab.e Ab.e (by omega) (by omega)) fun KN Cf => ?_; clear Ab KM
   refine s1 Cf (a_0 rfl Cf.e) fun KO Cg => ?_; clear Cf KN
   refine s1 Cg (a_0 rfl Cg.e) fun KP Ac => ?_; clear Cg KO
   refine s1 Ac (f_9 rfl Ac.e Ac.e (by omega) (by omega)) fun KQ Ch => ?_; clear Ac KP
   refine s1 Ch (a_0 rfl Ch.e) fun KR Ad => ?_; clear Ch KQ
   refine s1 Ad (f_9 rfl Ad.e Ad.e (by omega) (by omega)) fun KS X => ?_; clear Ad KR
   refine s2 X (b_5 rfl en_40 (ev4 X.e X.e X.e X.e) (o_9 q a (pos + saw) (((farF q a) - pos) - saw) hq (by omega) _)) ?_
   rintro KT _ Mx ⟨rfl, FU⟩ Ci; have Fi := S.step FU; clear FU X S KS
   refine s2 Ci (c_7 Fi rfl (pv1 Ci.e) j_0 h_9 r_7 (by decide) (cs := [(iv ((d_4 q a (pos + saw) (((farF q a) - pos) - saw)).x)), (iv ((d_4 q a (pos + saw) (((farF q a) - pos) - saw)).y)), (iv ((d_4 q a (pos + saw) (((farF q a) - pos) - saw)).w)), (iv ((d_4 q a (pos + saw) (((farF q a) - pos) - saw)).l))]) (f_2 _ _ _ _)) ?_
   rintro KU _ My ⟨Me, rfl, DY⟩ Ae; clear Ci Fi KT
   refine s2 Ae (e_9 DY rfl j_0 el_78 Ae.e Ae.e (i := 1) rfl (SlAt.h_3 (n := 1) (DY.bk 0 rfl) rfl (Nat.le_of_ble_eq_true rfl)) rfl (by first | decide | (simp only [List.nil_append, List.length_singleton, maxLen]; decide)) (by first | decide | (simp only [List.nil_append, List.length_singleton]; decide))) ?_
   intro KV LW Mz Fj Cj
   have Gz := Fj.c_5 (i := 1) rfl (n' := (([] : List Quad) ++ [(d_4 q a (pos + saw) (((farF q a) - pos) - saw))]).length) (xs' := (recC d_5 (([] : List Quad) ++ [(d_4 q a (pos + saw) (((farF q a) - pos) - saw))]))) (g_4 ([] : List Quad) (d_4 q a (pos + saw) (((farF q a) - pos) - saw))) (g_9 d_5 ([] : List Quad) (d_4 q a (pos + saw) (((farF q a) - pos) - saw))); clear Fj Ae DY KU
   refine s1 Cj (a_1 rfl Cj.e) fun KW FC => ?_; clear Cj KV
   refine n2 ?_
   have Ck := FC.as [(10, LW)] rfl; clear FC
   refine a_5 (s1 Ck (a_0 rfl Ck.e) fun KX Cl => ?_); clear Ck KW
   refine s1 Cl (a_1 rfl Cl.e) fun MS FD => ?_; clear Cl KX
   refine n1 (c_3 (a_9 FD (.inl rfl) (a_4 FD rfl (.tmp rfl)) ?_))
   have hz := Gz.c_5 (i := 1) rfl (n' := (a_7 q a pos saw).length) (xs' := recC d_5 (a_7 q a pos saw)) (by rw [k_4 (by unfold nopart; omega) (by omega) (by omega)]; rfl) (by rw [k_4 (by unfold nopart; omega) (by omega) (by omega)]; rfl)
   exact ⟨hz.ext, hz.g_7 (i := 1) rfl⟩
  skip
  rw [decide_eq_false F2] at J
  refine b_3 J rfl (c_0 (b_0 (b_6 ?_)))
  have Cm := J.as [(10, (Value.slice none 0 0))] rfl; clear J
  refine a_5 (s1 Cm (a_0 rfl Cm.e) fun KY Cn => ?_); clear Cm GI
  refine s1 Cn (a_1 rfl Cn.e) fun MT FE => ?_; clear Cn KY
  refine n1 (c_3 (a_9 FE (.inl rfl) (a_4 FE rfl (.tmp rfl)) ?_))
  have hz := S.c_5 (i := 0) rfl (n' := (a_7 q a pos saw).length) (xs' := recC d_5 (a_7 q a pos saw)) (by rw [f_6 (by unfold nopart; omega) (by omega) (by omega)]; rfl) (by rw [f_6 (by unfold nopart; omega) (by omega) (by omega)]; rfl)
  exact ⟨hz.ext, hz.g_7 (i := 0) rfl⟩
 skip
 rw [decide_eq_false Fy] at Q
 refine s3 Q fun KZ FF => ?_; clear Q GE
 refine s3 FF fun Ka Co => ?_; clear FF KZ
 refine s5 Co (a_8 rfl Co.e (evc _ _)) fun Kb Af => ?_; clear Co Ka
 refine s1 Af (a_8 rfl Af.e Af.e) fun Kc Cp => ?_; clear Af Kb
 refine n1 (b_3 Cp rfl (c_0 (b_0 (b_6 ?_))))
 have FG := Cp.as [(9, (iv (farF q a))), (4, (bptr b4 0)), (1, (Value.bool a)), (2, (iv pos)), (3, (iv saw))] rfl; clear Cp
 refine a_5 (s1 FG (a_1 rfl (evc _ _)) fun Kd Cq => ?_); clear FG Kc
 have T := A.i_4 78 4; clear A
 refine n2 (m2 (s1 Cq (a_0 rfl Cq.e) fun Ke Cr => ?_)); clear Cq Kd
 refine s1 Cr (h_4 rfl Cr.e (evc _ _)) fun GJ D => ?_; clear Cr Ke
 refine n1 ?_
 by_cases F3 : 0 < pos
 ·skip
  rw [decide_eq_true F3] at D
  refine c_1 D rfl (a_5 (s1 D (a_0 rfl D.e) fun Kf Cs => ?_)); clear D GJ
  refine s1 Cs (c_2 rfl h_9 (Cs.ev rfl) (T.bk 1 rfl) (l := [(iv q.x), (iv q.y), (iv q.w), (iv q.l)]) rfl rfl) fun Kg Ct => ?_; clear Cs Kf
  refine s1 Ct (a_0 rfl Ct.e) fun Kh Cu => ?_; clear Ct Kg
  refine s1 Cu (a_0 rfl Cu.e) fun Ki f => ?_; clear Cu Kh
  refine s2 f (b_5 rfl en_40 (ev4 f.e f.e (evc _ _) f.e) (o_9 q a 0 pos hq (by omega) _)) ?_
  rintro Kj _ M0 ⟨rfl, FV⟩ Cv; have Fk := T.step FV; clear FV f T Ki
  refine s2 Cv (c_7 Fk rfl (pv1 Cv.e) j_0 h_9 r_7 (by decide) (cs := [(iv ((d_4 q a 0 pos).x)), (iv ((d_4 q a 0 pos).y)), (iv ((d_4 q a 0 pos).w)), (iv ((d_4 q a 0 pos).l))]) (f_2 _ _ _ _)) ?_
  rintro Kk _ M1 ⟨Mf, rfl, DZ⟩ Ag; clear Cv Fk Kj
  refine s2 Ag (e_9 DZ rfl j_0 el_78 Ag.e Ag.e (i := 1) rfl (SlAt.h_3 (n := 1) (DZ.bk 0 rfl) rfl (Nat.le_of_ble_eq_true rfl)) rfl (by first | decide | (simp only [List.nil_append, List.length_singleton, maxLen]; decide)) (by first | decide | (simp only [List.nil_append, List.length_singleton]; decide))) ?_
  intro Kl Gv M2 Fl Cw
  have Av := Fl.c_5 (i := 1) rfl (n' := (([] : List Quad) ++ [(d_4 q a 0 pos)]).length) (xs' := (recC d_5 (([] : List Quad) ++ [(d_4 q a 0 pos)]))) (g_4 ([] : List Quad) (d_4 q a 0 pos)) (g_9 d_5 ([] : List Quad) (d_4 q a 0 pos)); clear Fl Ag DZ Kk
  refine s1 Cw (a_1 rfl Cw.e) fun Km FH => ?_; clear Cw Kl
  refine n2 (b_6 ?_)
  have Cx := FH.as [(10, Gv), (9, (iv (farF q a))), (4, (bptr b4 0)), (1, (Value.bool a)), (2, (iv pos)), (3, (iv saw))] rfl; clear FH
  refine a_5 (s1 Cx (a_0 rfl Cx.e) fun Kn Cy => ?_); clear Cx Km
  refine s1 Cy (a_0 rfl Cy.e) fun Ko Ah => ?_; clear Cy Kn
  refine s1 Ah (c_6 rfl Ah.e Ah.e (by omega) (by omega)) fun Kp Cz => ?_; clear Ah Ko
  refine s1 Cz (a_0 rfl Cz.e) fun Kq Ai => ?_; clear Cz Kp
  refine s1 Ai (e_2 rfl Ai.e Ai.e) fun GK G => ?_; clear Ai Kq
  refine n1 ?_
  by_cases F4 : (pos + saw) < (farF q a)
  ·skip
   rw [decide_eq_true F4] at G
   refine c_1 G rfl (a_5 (s1 G (a_0 rfl G.e) fun Kr C0 => ?_)); clear G GK
   refine s1 C0 (c_2 rfl h_9 (C0.ev rfl) (Av.bk 2 rfl) (l := [(iv q.x), (iv q.y), (iv q.w), (iv q.l)]) rfl rfl) fun Ks C1 => ?_; clear C0 Kr
   refine s1 C1 (a_0 rfl C1.e) fun Kt C2 => ?_; clear C1 Ks
   refine s1 C2 (a_0 rfl C2.e) fun Ku C3 => ?_; clear C2 Kt
   refine s1 C3 (a_0 rfl C3.e) fun Kv Aj => ?_; clear C3 Ku
   refine s1 Aj (c_6 rfl Aj.e Aj.e (by omega) (by omega)) fun Kw C4 => ?_; clear Aj Kv
   refine s1 C4 (a_0 rfl C4.e) fun Kx C5 => ?_; clear C4 Kw
   refine s1 C5 (a_0 rfl C5.e) fun Ky Ak => ?_; clear C5 Kx
   refine s1 Ak (f_9 rfl Ak.e Ak.e (by omega) (by omega)) fun Kz C6 => ?_; clear Ak Ky
   refine s1 C6 (a_0 rfl C6.e) fun K0 Al => ?_; clear C6 Kz
   refine s1 Al (f_9 rfl Al.e Al.e (by omega) (by omega)) fun K1 Y => ?_; clear Al K0
   refine s2 Y (b_5 rfl en_40 (ev4 Y.e Y.e Y.e Y.e) (o_9 q a (pos + saw) (((farF q a) - pos) - saw) hq (by omega) _)) ?_
   rintro K2 _ M3 ⟨rfl, FW⟩ C7; have Fm := Av.step FW; clear FW Y Av K1
   refine s2 C7 (c_7 Fm rfl (pv1 C7.e) j_0 h_9 r_7 (by decide) (cs := [(iv ((d_4 q a (pos + saw) (((farF q a) - pos) - saw)).x)), (iv ((d_4 q a (pos + saw) (((farF q a) - pos) - saw)).y)), (iv ((d_4 q a (pos + saw) (((farF q a) - pos) - saw)).w)), (iv ((d_4 q a (pos + saw) (((farF q a) - pos) - saw)).l))]) (f_2 _ _ _ _)) ?_
   rintro K3 _ M4 ⟨Mg, rfl, Da⟩ Am; clear C7 Fm K2
   refine s2 Am (e_9 Da rfl j_0 el_78 Am.e Am.e (i := 2) rfl (SlAt.h_3 (n := 1) (Da.bk 0 rfl) rfl (Nat.le_of_ble_eq_true rfl)) rfl (by first | decide | (simp only [List.nil_append, List.length_singleton, maxLen]; decide)) (by first | decide | (simp only [List.nil_append, List.length_singleton]; decide))) ?_
   intro K4 LX M5 Fn C8
   have G0 := Fn.c_5 (i := 2) rfl (n' := ((([] : List Quad) ++ [(d_4 q a 0 pos)]) ++ [(d_4 q a (pos + saw) (((farF q a) - pos) - saw))]).length) (xs' := (recC d_5 ((([] : List Quad) ++ [(d_4 q a 0 pos)]) ++ [(d_4 q a (pos + saw) (((farF q a) - pos) - saw))]))) (g_4 (([] : List Quad) ++ [(d_4 q a 0 pos)]) (d_4 q a (pos + saw) (((farF q a) - pos) - saw))) (g_9 d_5 (([] : List Quad) ++ [(d_4 q a 0 pos)]) (d_4 q a (pos + saw) (((farF q a) - pos) - saw))); clear Fn Am Da K3
   refine s1 C8 (a_1 rfl C8.e) fun K5 FI => ?_; clear C8 K4
   refine n2 ?_
   have C9 := FI.as [(10, LX)] rfl; clear FI
   refine a_5 (s1 C9 (a_0 rfl C9.e) fun K6 DA => ?_); clear C9 K5
   refine s1 DA (a_1 rfl DA.e) fun MU FJ => ?_; clear DA K6
   refine n1 (c_3 (a_9 FJ (.inl rfl) (a_4 FJ rfl (.tmp rfl)) ?_))
   have hz := G0.c_5 (i := 2) rfl (n' := (a_7 q a pos saw).length) (xs' := recC d_5 (a_7 q a pos saw)) (by rw [l_3 (by unfold nopart; omega) (by omega) (by omega)]; rfl) (by rw [l_3 (by unfold nopart; omega) (by omega) (by omega)]; rfl)
   exact ⟨hz.ext, hz.g_7 (i := 2) rfl⟩
  skip
  rw [decide_eq_false F4] at G
  refine b_3 G rfl (c_0 (b_0 (b_6 ?_)))
  have DB := G.as [(10, Gv)] rfl; clear G
  refine a_5 (s1 DB (a_0 rfl DB.e) fun K7 DC => ?_); clear DB GK
  refine s1 DC (a_1 rfl DC.e) fun MV FK => ?_; clear DC K7
  refine n1 (c_3 (a_9 FK (.inl rfl) (a_4 FK rfl (.tmp rfl)) ?_))
  have hz := Av.c_5 (i := 1) rfl (n' := (a_7 q a pos saw).length) (xs' := recC d_5 (a_7 q a pos saw)) (by rw [k_5 (by unfold nopart; omega) (by omega) (by omega)]; rfl) (by rw [k_5 (by unfold nopart; omega) (by omega) (by omega)]; rfl)
  exact ⟨hz.ext, hz.g_7 (i := 1) rfl⟩
 skip
 rw [decide_eq_false F3] at D
 refine b_3 D rfl (c_0 (b_0 (b_6 (m2 (s1 D (a_0 rfl D.e) fun K8 DD => ?_))))); clear D GJ
 refine s1 DD (a_0 rfl DD.e) fun K9 An => ?_; clear DD K8
 refine s1 An (c_6 rfl An.e An.e (by omega) (by omega)) fun LA DE => ?_; clear An K9
 refine s1 DE (a_0 rfl DE.e) fun LB Ao => ?_; clear DE LA
 refine s1 Ao (e_2 rfl Ao.e Ao.e) fun GL K => ?_; clear Ao LB
 refine n1 ?_
 by_cases F5 : (pos + saw) < (farF q a)
 ·skip
  rw [decide_eq_true F5] at K
  refine c_1 K rfl ?_
  have DF := K.as [(10, (Value.slice none 0 0)), (9, (iv (farF q a))), (4, (bptr b4 0)), (1, (Value.bool a)), (2, (iv pos)), (3, (iv saw))] rfl; clear K
  refine a_5 (s1 DF (a_0 rfl DF.e) fun LC DG => ?_); clear DF GL
  refine s1 DG (c_2 rfl h_9 (DG.ev rfl) (T.bk 1 rfl) (l := [(iv q.x), (iv q.y), (iv q.w), (iv q.l)]) rfl rfl) fun LD DH => ?_; clear DG LC
  refine s1 DH (a_0 rfl DH.e) fun LE DI => ?_; clear DH LD
  refine s1 DI (a_0 rfl DI.e) fun LF DJ => ?_; clear DI LE
  refine s1 DJ (a_0 rfl DJ.e) fun LG Ap => ?_; clear DJ LF
  refine s1 Ap (c_6 rfl Ap.e Ap.e (by omega) (by omega)) fun LH DK => ?_; clear Ap LG
  refine s1 DK (a_0 rfl DK.e) fun LI DL => ?_; clear DK LH
  refine s1 DL (a_0 rfl DL.e) fun LJ Aq => ?_; clear DL LI
  refine s1 Aq (f_9 rfl Aq.e Aq.e (by omega) (by omega)) fun LK DM => ?_; clear Aq LJ
  refine s1 DM (a_0 rfl DM.e) fun LL Ar => ?_; clear DM LK
  refine s1 Ar (f_9 rfl Ar.e Ar.e (by omega) (by omega)) fun LM Z => ?_; clear Ar LL
  refine s2 Z (b_5 rfl en_40 (ev4 Z.e Z.e Z.e Z.e) (o_9 q a (pos + saw) (((farF q a) - pos) - saw) hq (by omega) _)) ?_
  rintro LN _ M6 ⟨rfl, FX⟩ DN; have Fo := T.step FX; clear FX Z T LM
  refine s2 DN (c_7 Fo rfl (pv1 DN.e) j_0 h_9 r_7 (by decide) (cs := [(iv ((d_4 q a (pos + saw) (((farF q a) - pos) - saw)).x)), (iv ((d_4 q a (pos + saw) (((farF q a) - pos) - saw)).y)), (iv ((d_4 q a (pos + saw) (((farF q a) - pos) - saw)).w)), (iv ((d_4 q a (pos + saw) (((farF q a) - pos) - saw)).l))]) (f_2 _ _ _ _)) ?_
  rintro LO _ M7 ⟨Mh, rfl, Db⟩ As; clear DN Fo LN
  refine s2 As (e_9 Db rfl j_0 el_78 As.e As.e (i := 1) rfl (SlAt.h_3 (n := 1) (Db.bk 0 rfl) rfl (Nat.le_of_ble_eq_true rfl)) rfl (by first | decide | (simp only [List.nil_append, List.length_singleton, maxLen]; decide)) (by first | decide | (simp only [List.nil_append, List.length_singleton]; decide))) ?_
  intro LP LY M8 Fp DO
  have G1 := Fp.c_5 (i := 1) rfl (n' := (([] : List Quad) ++ [(d_4 q a (pos + saw) (((farF q a) - pos) - saw))]).length) (xs' := (recC d_5 (([] : List Quad) ++ [(d_4 q a (pos + saw) (((farF q a) - pos) - saw))]))) (g_4 ([] : List Quad) (d_4 q a (pos + saw) (((farF q a) - pos) - saw))) (g_9 d_5 ([] : List Quad) (d_4 q a (pos + saw) (((farF q a) - pos) - saw))); clear Fp As Db LO
  refine s1 DO (a_1 rfl DO.e) fun LQ FL => ?_; clear DO LP
  refine n2 ?_
  have DP := FL.as [(10, LY)] rfl; clear FL
  refine a_5 (s1 DP (a_0 rfl DP.e) fun LR DQ => ?_); clear DP LQ
  refine s1 DQ (a_1 rfl DQ.e) fun MX FM => ?_; clear DQ LR
  refine n1 (c_3 (a_9 FM (.inl rfl) (a_4 FM rfl (.tmp rfl)) ?_))
  have hz := G1.c_5 (i := 1) rfl (n' := (a_7 q a pos saw).length) (xs' := recC d_5 (a_7 q a pos saw)) (by rw [k_4 (by unfold nopart; omega) (by omega) (by omega)]; rfl) (by rw [k_4 (by unfold nopart; omega) (by omega) (by omega)]; rfl)
  exact ⟨hz.ext, hz.g_7 (i := 1) rfl⟩
 skip
 rw [decide_eq_false F5] at K
 refine b_3 K rfl (c_0 (b_0 (b_6 ?_)))
 have DR := K.as [(10, (Value.slice none 0 0))] rfl; clear K
 refine a_5 (s1 DR (a_0 rfl DR.e) fun LS DS => ?_); clear DR GL
 refine s1 DS (a_1 rfl DS.e) fun MY FN => ?_; clear DS LS
 refine n1 (c_3 (a_9 FN (.inl rfl) (a_4 FN rfl (.tmp rfl)) ?_))
 have hz := T.c_5 (i := 0) rfl (n' := (a_7 q a pos saw).length) (xs' := recC d_5 (a_7 q a pos saw)) (by rw [f_6 (by unfold nopart; omega) (by omega) (by omega)]; rfl) (by rw [f_6 (by unfold nopart; omega) (by omega) (by omega)]; rfl)
 exact ⟨hz.ext, hz.g_7 (i := 0) rfl⟩
end Go.Proofs.Ytphkmnaohimdbaa

namespace Go.Proofs.Ytphkmnaohimdbaa
open Go.RowKit Go.Shelf Go.Eng Go.Top
theorem fd_24_0 : fldK Try.prog 24 0 = some 0 := by kernel_rfl
theorem fd_24_1 : fldK Try.prog 24 1 = some 1 := by kernel_rfl
theorem ze_4 : (Try.prog.info? 4).bind (·.zero) = some (Value.bool false) := by kernel_rfl
theorem o_0 (x0_0 : Bool) : Instr.fill (fun i => some (i * 1, 1)) ((Array.range (1 * 1)).map ((Value.bool false).cells[· % (Value.bool false).cells.size]!)) [(0, (.bool x0_0))] = some (([(.bool x0_0)] : List Value).toArray) := by kernel_rfl
theorem h_2 : Try.prog.underlying 39 = some (.slice 4) := by kernel_rfl
theorem ty_4 : tyK Try.prog 4 = some (false, 1) := by kernel_rfl
theorem un_34 : Try.prog.underlying 34 = some (.slice 75) := by kernel_rfl
theorem ty_75 : tyK Try.prog 75 = some (true, 3) := by kernel_rfl
theorem ze_75 : (Try.prog.info? 75).bind (·.zero) = some (Value.agg #[(iv 0), (Value.bool false), (iv 0)]) := by kernel_rfl
theorem fd_75_0 : fldK Try.prog 75 0 = some 0 := by kernel_rfl
theorem en_11 : ∀ args w, (callFunc 11 args).run Try.prog w = .ok (.enter 11 args) w := enters_of Try.func11 (by kernel_rfl) rfl
theorem fd_75_1 : fldK Try.prog 75 1 = some 1 := by kernel_rfl
theorem fd_75_2 : fldK Try.prog 75 2 = some 2 := by kernel_rfl
theorem fd_24_2 : fldK Try.prog 24 2 = some 2 := by kernel_rfl
theorem mixed : Try.prog.follows .mixedOrders = true := by kernel_rfl
theorem en_28 : ∀ args w, (callFunc 28 args).run Try.prog w = .ok (.enter 28 args) w := enters_of Try.func28 (by kernel_rfl) rfl
theorem el_4 : elK Try.prog 4 = some ((Value.bool false), 1, 1) := by kernel_rfl
theorem m_8 {α : Type} (a L : List α) (d : α) {j : Nat} (h : j < L.length) : (a ++ L.take j) ++ [L.getD j d] = a ++ L.take (j + 1) := by
 rw [List.append_assoc, List.take_add_one, List.getD, List.getElem?_eq_getElem h]; rfl
theorem rep_snoc {α : Type} (a : List α) (x : α) (j : Nat) : (a ++ List.replicate j x) ++ [x] = a ++ List.replicate (j + 1) x := by
 rw [List.append_assoc, ← List.replicate_succ']
set_option maxHeartbeats 4000000 in
theorem pieces_any (p : g_2) (vw : Value) (w : World) (hvw : SlAt w vw 8 p.wants.length (recC d_6 p.wants)) (cuts : List CutD) (vc : Value) (hvc : SlAt w vc 3 cuts.length (recC cutC cuts)) (hV : n_0 p) (hcl : cuts.length ≤ 100) (hcb : ∀ i, i < cuts.length → -1000 ≤ (cuts.getD i c0).pos ∧ (cuts.getD i c0).pos ≤ 1000) :
  Calls Try.prog 15 #[(Value.agg #[(iv p.wide), (iv p.long), (iv p.saw), vw]), vc] w (Ret fun v w' => (l_7 p cuts = none ∧ v = .tuple #[.slice none 0 0, .slice none 0 0, .bool false] ∧ Ext NoB w w') ∨ ∃ ps cs u1 u2, l_7 p cuts = some (ps, cs) ∧ v = .tuple #[u1, u2, .bool true] ∧ Sep NoB w w' [row u1 78 4 ps.length (recC d_5 ps), row u2 4 1 cs.length (d_1 cs)]) := by
 refine b_2 Try.func15 rfl fun a0 AZ => ?_
 replace AZ : Fr 81 [] [(0, (Value.agg #[(iv p.wide), (iv p.long), (iv p.saw), vw])), (1, vc)] a0 := AZ
 have hsw := hV.saw
 have B2 : Sep NoB w w [(sl vw 8 p.wants.length (recC d_6 p.wants)), (sl vc 3 cuts.length (recC cutC cuts))] := f_7 ⟨rfl, hvw, rfl, hvc, trivial⟩
 refine m2 (s2 AZ (e_5 B2 rfl AZ.e (cs := [(iv p.wide), (iv p.long), (iv p.saw), vw]) rfl) ?_)
 rintro a1 _ w3 ⟨H, rfl, BW⟩ Bz; clear AZ B2 a0
 refine s1 Bz (a_1 rfl (evc _ _)) fun a6 B0 => ?_; clear Bz a1
 refine s1 B0 (a_1 rfl (evc _ _)) fun a8 B1 => ?_; clear B0 a6
 refine s1 B1 (a_1 rfl (evc _ _)) fun Cr Aa => ?_; clear B1 a8
 refine n4 (s1 Aa (a_2 rfl fd_24_0 Aa.e) fun Cs Ab => ?_); clear Aa Cr
 refine s1 Ab (a_3 rfl ty_3 Ab.e (BW.bk 0 rfl) rfl) fun Ct Ac => ?_; clear Ab Cs
 refine s1 Ac (a_2 rfl fd_24_1 Ac.e) fun Cu Ad => ?_; clear Ac Ct
 refine s1 Ad (a_3 rfl ty_3 Ad.e (BW.bk 0 rfl) rfl) fun Cv u => ?_; clear Ad Cu
 refine s1 u (e_8 rfl (pv4 (evc _ _) (evc _ _) u.e u.e) (k_7 _ _ _ _)) fun Cw Ae => ?_; clear u Cv
 refine s2 Ae (c_7 BW rfl (pv1 Ae.e) j_0 h_9 r_7 (by decide) (cs := [(iv 0), (iv 0), (iv p.wide), (iv p.long)]) (f_2 _ _ _ _)) ?_
 rintro Cx _ Dk ⟨AX, rfl, Bi⟩ Bb; clear Ae BW Cw
 refine s2 Bb (c_7 Bi rfl (pv1 (evc _ _)) h_2 ty_4 ze_4 (by decide) (cs := [(Value.bool false)]) (o_0 _)) ?_
 rintro Cy _ B3 ⟨AY, rfl, Bj⟩ Af; clear Bb Bi Cx
 refine s1 Af (a_1 rfl Af.e) fun Cz Ag => ?_; clear Af Cy
 refine s1 Ag (a_1 rfl Ag.e) fun C0 Bc => ?_; clear Ag Cz
 refine n2 (b_6 ?_)
 have Bd := Bc.as [(8, (Value.slice (some ⟨AY, 0, none⟩) 1 1)), (7, (Value.slice (some ⟨AX, 0, none⟩) 1 1)), (2, (bptr H 0)), (1, vc)] rfl; clear Bc
 have Bk := Bj.blk_row (i := 1) (sz := 4) (n := 1) rfl rfl (by decide); clear Bj
 have Bl : Sep NoB w B3 [(blk AY 4 [(Value.bool false)]), (row (Value.slice (some ⟨AX, 0, none⟩) 1 1) 78 4 ([(⟨0, 0, p.wide, p.long⟩ : Quad)].length) (recC d_5 ([(⟨0, 0, p.wide, p.long⟩ : Quad)]))), (blk H 24 [(iv p.wide), (iv p.long), (iv p.saw), vw]), (sl vw 8 p.wants.length (recC d_6 p.wants)), (sl vc 3 cuts.length (recC cutC cuts))] := Bk; clear Bk
 have Bm := Bl.blk_row (i := 0) (sz := 1) (n := 1) rfl rfl (by decide); clear Bl
 have Bn : Sep NoB w B3 [(row (Value.slice (some ⟨AY, 0, none⟩) 1 1) 4 1 ([false].length) (d_1 ([false]))), (row (Value.slice (some ⟨AX, 0, none⟩) 1 1) 78 4 ([(⟨0, 0, p.wide, p.long⟩ : Quad)].length) (recC d_5 ([(⟨0, 0, p.wide, p.long⟩ : Quad)]))), (blk H 24 [(iv p.wide), (iv p.long), (iv p.saw), vw]), (sl vw 8 p.wants.length (recC d_6 p.wants)), (sl vc 3 cuts.length (recC cutC cuts))] := Bm; clear Bm
 refine a_5 (s1 Bd (a_1 rfl (evc _ _)) fun C1 Be => ?_); clear Bd C0
 refine n1 (c_9 ?_)
 have Bf := Be.as [(9, (iv 0)), (8, (Value.slice (some ⟨AY, 0, none⟩) 1 1)), (7, (Value.slice (some ⟨AX, 0, none⟩) 1 1)), (2, (bptr H 0)), (1, vc)] rfl; clear Be
 refine g_6 (G := Nat) (fun (k : Nat) a_ w_ => ∃ ps : List Quad, ∃ cs : List Bool, ∃ v7_ : Value, ∃ v8_ : Value, Fr 81 [] [(9, (iv (k : Int))), (8, v8_), (7, v7_), (2, (bptr H 0)), (1, vc)] a_ ∧ Sep NoB w w_ [(row v8_ 4 1 cs.length (d_1 cs)), (row v7_ 78 4 ps.length (recC d_5 ps)), (blk H 24 [(iv p.wide), (iv p.long), (iv p.saw), vw]), (sl vw 8 p.wants.length (recC d_6 p.wants)), (sl vc 3 cuts.length (recC cutC cuts))] ∧ (k ≤ cuts.length) ∧ (h_8 p cuts k = some (ps, cs))) (fun k => cuts.length - k) 0 ⟨[(⟨0, 0, p.wide, p.long⟩ : Quad)], [false], (Value.slice (some ⟨AX, 0, none⟩) 1 1), (Value.slice (some ⟨AY, 0, none⟩) 1 1), Bf.as _ rfl, Bn, Nat.zero_le _, rfl⟩ ?_
 clear Bf Bn C1
 rintro k C2 Dl ⟨ps, cs, v7_, v8_, Ah, N, hk, hu⟩
 have hpc := pieces_V hV k _ hu; have hps : cs.length = ps.length := hpc.same; have hpf : ps.length ≤ 2 * k + 1 := hpc.few; have hpp : 1 ≤ ps.length := hpc.pos
 refine b_6 (m2 (s1 Ah (a_0 rfl Ah.e) fun C3 Ai => ?_)); clear Ah C2
 refine s1 Ai (a_0 rfl Ai.e) fun C4 Aj => ?_; clear Ai C3
 refine s1 Aj (d_7 rfl un_34 Aj.e (N.sk 4 rfl)) fun C5 AO => ?_; clear Aj C4
 refine s1 AO (e_2 rfl AO.e AO.e) fun Bx D => ?_; clear AO C5
 refine n1 ?_
 by_cases Bq : (k : Int) < (cuts.length : Int)
 ·skip
  rw [decide_eq_true Bq] at D
  have hcp := hcb k (by omega)
  refine c_1 D rfl (c_0 (b_0 (b_6 (c_9 (m2 (s1 D (a_0 rfl D.e) fun C6 Ak => ?_)))))); clear D Bx
  refine s1 Ak (a_0 rfl Ak.e) fun C7 AP => ?_; clear Ak C6
  refine s1 AP (b_8 rfl un_34 ty_75 AP.e (i := k) AP.e (N.sk 4 rfl) (by decide) (by omega)) fun C8 Al => ?_; clear AP C7
  refine s1 Al (e_1 rfl ty_75 Al.e (N.sk 4 rfl) (cut_all (by omega)) rfl (by decide)) fun C9 Bg => ?_; clear Al C8
  refine s2 Bg (e_6 N rfl ze_75 (cs := [(iv 0), (Value.bool false), (iv 0)]) rfl) ?_
  rintro DA _ Dm ⟨L, rfl, Bo⟩ AQ; clear Bg N C9
  refine s7 AQ (d_8 Bo rfl ty_75 AQ.e AQ.e (i := 0) rfl (vs := [(iv ((cuts.getD k c0).piece)), (Value.bool ((cuts.getD k c0).across)), (iv ((cuts.getD k c0).pos))]) rfl rfl rfl (Nat.le_of_ble_eq_true rfl)) ?_
  intro _ DO Bp Bh; clear AQ
  have F : Sep NoB w DO [(blk L 75 [(iv ((cuts.getD k c0).piece)), (Value.bool ((cuts.getD k c0).across)), (iv ((cuts.getD k c0).pos))]), (row v8_ 4 1 cs.length (d_1 cs)), (row v7_ 78 4 ps.length (recC d_5 ps)), (blk H 24 [(iv p.wide), (iv p.long), (iv p.saw), vw]), (sl vw 8 p.wants.length (recC d_6 p.wants)), (sl vc 3 cuts.length (recC cutC cuts))] := Bp; clear Bp Bo
  refine n2 (b_6 ?_)
  have Am := Bh.as [(10, (bptr L 0)), (9, (iv (k : Int))), (8, v8_), (7, v7_), (2, (bptr H 0)), (1, vc)] rfl; clear Bh
  refine a_5 (s1 Am (a_2 rfl fd_75_0 Am.e) fun DB An => ?_); clear Am DA
  refine s1 An (a_3 rfl ty_3 An.e (F.bk 0 rfl) rfl) fun DC Ao => ?_; clear An DB
  refine s1 Ao (a_0 rfl Ao.e) fun DD Ap => ?_; clear Ao DC
  refine s1 Ap (d_7 rfl j_0 Ap.e (SlAt.b_4 (F.b_7 2 rfl))) fun DE Aq => ?_; clear Ap DD
  refine s1 Aq (f_9 rfl Aq.e (evc _ _) (by omega) (by omega)) fun DF AR => ?_; clear Aq DE
  refine s2 AR (b_5 rfl en_11 (ev3 AR.e (evc _ _) AR.e) (q_4 _ _ _ _)) ?_
  rintro DG _ W_ ⟨rfl, hW_⟩ Ar; have hW2_ := hW_.symm; subst hW2_; clear hW_ AR DF
  refine s1 Ar (e_4 rfl Ar.e) fun DH As => ?_; clear Ar DG
  refine s1 As (a_0 rfl As.e) fun By K => ?_; clear As DH
  rcases Bool.eq_false_or_eq_true ((inB ((cuts.getD k c0).piece) 0 ((ps.length : Int) - 1))) with AW | AW
  ·skip
   rw [AW] at K
   have hin := g_3.1 AW; have hqd := hpc.quad (cuts.getD k c0).piece.toNat (show (cuts.getD k c0).piece.toNat < ps.length by omega)
   refine s5 K (a_0 rfl K.e) fun DI At => ?_; clear K By
   refine s5 At (a_2 rfl fd_75_0 At.e) fun DJ Au => ?_; clear At DI
   refine s5 Au (a_3 rfl ty_3 Au.e (F.bk 0 rfl) rfl) fun DK AS => ?_; clear Au DJ
   refine s5 AS (b_8 rfl h_2 ty_4 AS.e (i := ((cuts.getD k c0).piece).toNat) (AS.e.trans (i_8 (by omega))) (SlAt.b_4 (F.b_7 1 rfl)) (by decide) (by omega)) fun DL V => ?_; clear AS DK
   refine s5 V (d_3 rfl ty_4 V.e (SlAt.b_4 (F.b_7 1 rfl)) (h_6 (by omega))) fun B4 O => ?_; clear V DL
   refine s1 O (a_8 rfl O.e O.e) fun B5 B => ?_; clear O B4
   refine n1 ?_
   rcases Bool.eq_false_or_eq_true ((cs.getD (((cuts.getD k c0).piece).toNat) false)) with AV | AV
   ·skip
    rw [AV] at B
    refine c_1 B rfl (b_6 ?_)
    have Av := B.as [] rfl; clear B
    refine a_5 (s1 Av (a_1 rfl (evc _ _)) fun B6 Aw => ?_); clear Av B5
    refine s1 Aw (a_1 rfl (evc _ _)) fun B7 Ax => ?_; clear Aw B6
    refine s1 Ax (a_1 rfl (evc _ _)) fun DQ Ay => ?_; clear Ax B7
    exact n1 (c_3 (b_1 (d_2 (b_1 (b_1 (d_2 (b_1 (a_9 Ay (.inl rfl) (g_0 Ay rfl (.tmp rfl) (.tmp rfl) (.tmp rfl)) (.inl ⟨pieces_fail hu (by omega) (by first | exact ok_n1 (by assumption) | exact ok_n2 (by assumption) | exact ok_n3 (by assumption)), rfl, F.ext⟩)))))))))
   skip
   rw [AV] at B
   refine b_3 B rfl (c_0 (b_0 (b_6 ?_)))
   have Az := B.as [(10, (bptr L 0)), (9, (iv (k : Int))), (8, v8_), (7, v7_), (2, (bptr H 0)), (1, vc)] rfl; clear B
   have A0 := Az.as [(10, (bptr L 0)), (9, (iv (k : Int))), (8, v8_), (7, v7_), (2, (bptr H 0)), (1, vc)] rfl; clear Az
   refine h_7 mixed A0 F 11 [[], [], [1], [0, 2], [3], [], [5], [], [7], [], [9]] [(Yd.val v7_), (Yd.val (bptr L 0)), (Yd.val (iv ((cuts.getD k c0).piece))), (Yd.val (eptr v7_ (((cuts.getD k c0).piece).toNat * 4))), (Yd.val (Value.agg #[(iv ((ps.getD (((cuts.getD k c0).piece).toNat) q0).x)), (iv ((ps.getD (((cuts.getD k c0).piece).toNat) q0).y)), (iv ((ps.getD (((cuts.getD k c0).piece).toNat) q0).w)), (iv ((ps.getD (((cuts.getD k c0).piece).toNat) q0).l))])), (Yd.val (bptr L 1)), (Yd.val (Value.bool ((cuts.getD k c0).across))), (Yd.val (bptr L 2)), (Yd.val (iv ((cuts.getD k c0).pos))), (Yd.val (bptr H 2)), (Yd.val (iv p.saw))] (by decide +kernel) rfl rfl ?_ ?_
   ·skip
    refine dq (fun a w hA hS hd => a_0 rfl hA.e) ?_
    refine dq (fun a w hA hS hd => a_2 rfl fd_75_0 hA.e) ?_
    refine dq (fun a w hA hS hd => a_3 rfl ty_3 (hq hd 1) (hS.bk 0 rfl) rfl) ?_
    refine dq (fun a w hA hS hd => b_8 rfl j_0 h_9 (hq hd 0) (i := ((cuts.getD k c0).piece).toNat) ((hq hd 2).trans (i_8 (by omega))) (SlAt.b_4 (hS.b_7 2 rfl)) (by decide) (by omega)) ?_
    refine dq (fun a w hA hS hd => e_1 rfl h_9 (hq hd 3) (SlAt.b_4 (hS.b_7 2 rfl)) (k_6 (by omega)) rfl (by decide)) ?_
    refine dq (fun a w hA hS hd => a_2 rfl fd_75_1 hA.e) ?_
    refine dq (fun a w hA hS hd => a_3 rfl ty_4 (hq hd 5) (hS.bk 0 rfl) rfl) ?_
    refine dq (fun a w hA hS hd => a_2 rfl fd_75_2 hA.e) ?_
    refine dq (fun a w hA hS hd => a_3 rfl ty_3 (hq hd 7) (hS.bk 0 rfl) rfl) ?_
    refine dq (fun a w hA hS hd => a_2 rfl fd_24_2 hA.e) ?_
    refine dq (fun a w hA hS hd => a_3 rfl ty_3 (hq hd 9) (hS.bk 3 rfl) rfl) ?_
    trivial
   intro B8 Da A1 BP M; clear A0 F
   have A2 := A1.add (hz M 4); clear A1
   have A3 := A2.add (hz M 6); clear A2
   have A4 := A3.add (hz M 8); clear A3
   have I := A4.add (hz M 10); clear A4
   clear M
   refine s2 I (b_5 rfl en_28 (ev4 I.e I.e I.e I.e) (parts_ok (ps.getD (((cuts.getD k c0).piece).toNat) q0) ((cuts.getD k c0).across) ((cuts.getD k c0).pos) p.saw hqd (by omega) (by omega) _)) ?_
   rintro B9 U Db ⟨BO, hO129⟩ W; have J := BP.new_row BO hO129; clear BO hO129 I BP B8
   refine s1 W (a_1 rfl W.e) fun CA X => ?_; clear W B9
   refine n2 (m2 (s1 X (a_0 rfl X.e) fun CB Y => ?_)); clear X CA
   refine s1 Y (d_7 rfl j_0 Y.e (SlAt.b_4 (J.b_7 0 rfl))) fun CC Z => ?_; clear Y CB
   refine s1 Z (f_5 rfl Z.e (evc _ _)) fun BZ C => ?_; clear Z CC
   refine n1 ?_
   by_cases BX : ((a_7 (ps.getD (((cuts.getD k c0).piece).toNat) q0) ((cuts.getD k c0).across) ((cuts.getD k c0).pos) p.saw).length : Int) = 0
   ·skip
    rw [decide_eq_true BX] at C
    refine c_1 C rfl (b_6 ?_)
    have A5 := C.as [] rfl; clear C
    refine a_5 (s1 A5 (a_1 rfl (evc _ _)) fun CD A6 => ?_); clear A5 BZ
    refine s1 A6 (a_1 rfl (evc _ _)) fun CE A7 => ?_; clear A6 CD
    refine s1 A7 (a_1 rfl (evc _ _)) fun DR A8 => ?_; clear A7 CE
    exact n1 (c_3 (b_1 (d_2 (b_1 (b_1 (d_2 (b_1 (a_9 A8 (.inl rfl) (g_0 A8 rfl (.tmp rfl) (.tmp rfl) (.tmp rfl)) (.inl ⟨pieces_fail hu (by omega) (by first | exact ok_n1 (by assumption) | exact ok_n2 (by assumption) | exact ok_n3 (by assumption)), rfl, J.ext⟩)))))))))
   skip
   rw [decide_eq_false BX] at C
   refine b_3 C rfl (c_0 (b_0 (b_6 ?_)))
   have b := C.as [(11, U), (10, (bptr L 0)), (9, (iv (k : Int))), (8, v8_), (7, v7_), (2, (bptr H 0)), (1, vc)] rfl; clear C
   refine a_5 (s1 b (a_0 rfl b.e) fun CF c => ?_); clear b BZ
   refine s1 c (a_2 rfl fd_75_0 c.e) fun CG d => ?_; clear c CF
   refine s1 d (a_3 rfl ty_3 d.e (J.bk 1 rfl) rfl) fun CH P => ?_; clear d CG
   refine s1 P (b_8 rfl h_2 ty_4 P.e (i := ((cuts.getD k c0).piece).toNat) (P.e.trans (i_8 (by omega))) (SlAt.b_4 (J.b_7 2 rfl)) (by decide) (by omega)) fun CI f => ?_; clear P CH
   refine s7 f (o_2 J rfl ty_4 f.e (evc _ _) (i := 2) rfl (vs := [(Value.bool true)]) rfl rfl rfl (by rw [n_1]; omega) (by decide)) ?_
   intro _ Dc BQ A9; have BR := BQ.c_5 (i := 2) rfl (n' := (cs.set (((cuts.getD k c0).piece).toNat) true).length) (xs' := (d_1 (cs.set (((cuts.getD k c0).piece).toNat) true))) (by simp) (by simp [m_7, d_1, List.map_set]); clear BQ f J
   refine n4 (s1 A9 (a_1 rfl (evc _ _)) fun CJ BA => ?_); clear A9 CI
   refine n1 (c_9 ?_)
   have BB := BA.as [(12, (iv 0)), (11, U), (9, (iv (k : Int))), (8, v8_), (7, v7_), (2, (bptr H 0)), (1, vc)] rfl; clear BA
   refine g_6 (G := Nat) (fun (j : Nat) a_ w_ => ∃ v7_ : Value, ∃ v8_ : Value, Fr 81 [] [(12, (iv (j : Int))), (11, U), (9, (iv (k : Int))), (8, v8_), (7, v7_), (2, (bptr H 0)), (1, vc)] a_ ∧ Sep NoB w w_ [(row U 78 4 ((a_7 (ps.getD (((cuts.getD k c0).piece).toNat) q0) ((cuts.getD k c0).across) ((cuts.getD k c0).pos) p.saw).length) (recC d_5 (a_7 (ps.getD (((cuts.getD k c0).piece).toNat) q0) ((cuts.getD k c0).across) ((cuts.getD k c0).pos) p.saw))), (blk L 75 [(iv ((cuts.getD k c0).piece)), (Value.bool ((cuts.getD k c0).across)), (iv ((cuts.getD k c0).pos))]), (row v8_ 4 1 ((cs.set (cuts.getD k c0).piece.toNat true ++ List.replicate j false).length) (d_1 (cs.set (cuts.getD k c0).piece.toNat true ++ List.replicate j false))), (row v7_ 78 4 ((ps ++ (a_7 (ps.getD (cuts.getD k c0).piece.toNat q0) (cuts.getD k c0).across (cuts.getD k c0).pos p.saw).take j).length) (recC d_5 (ps ++ (a_7 (ps.getD (cuts.getD k c0).piece.toNat q0) (cuts.getD k c0).across (cuts.getD k c0).pos p.saw).take j))), (blk H 24 [(iv p.wide), (iv p.long), (iv p.saw), vw]), (sl vw 8 p.wants.length (recC d_6 p.wants)), (sl vc 3 cuts.length (recC cutC cuts))] ∧ (j ≤ (a_7 (ps.getD (cuts.getD k c0).piece.toNat q0) (cuts.getD k c0).across (cuts.getD k c0).pos p.saw).length)) (fun j => (a_7 (ps.getD (cuts.getD k c0).piece.toNat q0) (cuts.getD k c0).across (cuts.getD k c0).pos p.saw).length - j) 0 ⟨v7_, v8_, BB.as _ rfl, ((BR.c_5 (i := 3) rfl (n' := (ps ++ (a_7 (ps.getD (cuts.getD k c0).piece.toNat q0) (cuts.getD k c0).across (cuts.getD k c0).pos p.saw).take 0).length) (xs' := (recC d_5 (ps ++ (a_7 (ps.getD (cuts.getD k c0).piece.toNat q0) (cuts.getD k c0).across (cuts.getD k c0).pos p.saw).take 0))) (by rw [List.take_zero, List.append_nil]) (by rw [List.take_zero, List.append_nil])).c_5 (i := 2) rfl (n' := (cs.set (cuts.getD k c0).piece.toNat true ++ List.replicate 0 false).length) (xs' := (d_1 (cs.set (cuts.getD k c0).piece.toNat true ++ List.replicate 0 false))) (by rw [List.replicate_zero, List.append_nil]) (by rw [List.replicate_zero, List.append_nil])), Nat.zero_le _⟩ ?_
   clear BB BR CJ
   rintro j CK Dd ⟨v7_, v8_, g, E, hj⟩
   have hpl := parts_len (q := ps.getD (cuts.getD k c0).piece.toNat q0) (a := (cuts.getD k c0).across) (pos := (cuts.getD k c0).pos) (saw := p.saw); have Di : (ps ++ (a_7 (ps.getD (cuts.getD k c0).piece.toNat q0) (cuts.getD k c0).across (cuts.getD k c0).pos p.saw).take j).length ≤ 2 * k + 3 := (by rw [List.length_append, List.length_take]; omega); have Dj : (cs.set (cuts.getD k c0).piece.toNat true ++ List.replicate j false).length ≤ 2 * k + 3 := (by rw [List.length_append, List.length_set, List.length_replicate]; omega)
   refine b_6 (m2 (s1 g (a_0 rfl g.e) fun CL h => ?_)); clear g CK
   refine s1 h (a_0 rfl h.e) fun CM m => ?_; clear h CL
   refine s1 m (d_7 rfl j_0 m.e (SlAt.b_4 (E.b_7 0 rfl))) fun CN Q => ?_; clear m CM
   refine s1 Q (e_2 rfl Q.e Q.e) fun Ba A => ?_; clear Q CN
   refine n1 ?_
   by_cases BY : (j : Int) < ((a_7 (ps.getD (((cuts.getD k c0).piece).toNat) q0) ((cuts.getD k c0).across) ((cuts.getD k c0).pos) p.saw).length : Int)
   ·skip
    rw [decide_eq_true BY] at A
    refine c_1 A rfl (c_0 (b_0 (b_6 (c_9 (a_5 (s1 A (a_0 rfl A.e) fun CO o => ?_)))))); clear A Ba
    refine s1 o (a_0 rfl o.e) fun CP r => ?_; clear o CO
    refine s1 r (a_0 rfl r.e) fun CQ R => ?_; clear r CP
    refine s1 R (b_8 rfl j_0 h_9 R.e (i := j) R.e (SlAt.b_4 (E.b_7 0 rfl)) (by decide) (by omega)) fun CR s => ?_; clear R CQ
    refine s1 s (e_1 rfl h_9 s.e (SlAt.b_4 (E.b_7 0 rfl)) (k_6 (by omega)) rfl (by decide)) fun CS t => ?_; clear s CR
    refine s2 t (c_7 E rfl (pv1 t.e) j_0 h_9 r_7 (by decide) (cs := [(iv (((a_7 (ps.getD (((cuts.getD k c0).piece).toNat) q0) ((cuts.getD k c0).across) ((cuts.getD k c0).pos) p.saw).getD j q0).x)), (iv (((a_7 (ps.getD (((cuts.getD k c0).piece).toNat) q0) ((cuts.getD k c0).across) ((cuts.getD k c0).pos) p.saw).getD j q0).y)), (iv (((a_7 (ps.getD (((cuts.getD k c0).piece).toNat) q0) ((cuts.getD k c0).across) ((cuts.getD k c0).pos) p.saw).getD j q0).w)), (iv (((a_7 (ps.getD (((cuts.getD k c0).piece).toNat) q0) ((cuts.getD k c0).across) ((cuts.getD k c0).pos) p.saw).getD j q0).l))]) (f_2 _ _ _ _)) ?_
    rintro CT _ De ⟨DY, rfl, AT⟩ S; clear t E CS
    refine s2 S (e_9 AT rfl j_0 el_78 S.e S.e (i := 4) rfl (SlAt.h_3 (n := 1) (AT.bk 0 rfl) rfl (Nat.le_of_ble_eq_true rfl)) rfl (by simp only [maxLen]; omega) (by omega)) ?_
    intro CU Br Df BS z
    have BT := BS.c_5 (i := 4) rfl (n' := ((ps ++ (a_7 (ps.getD (cuts.getD k c0).piece.toNat q0) (cuts.getD k c0).across (cuts.getD k c0).pos p.saw).take j) ++ [((a_7 (ps.getD (((cuts.getD k c0).piece).toNat) q0) ((cuts.getD k c0).across) ((cuts.getD k c0).pos) p.saw).getD j q0)]).length) (xs' := (recC d_5 ((ps ++ (a_7 (ps.getD (cuts.getD k c0).piece.toNat q0) (cuts.getD k c0).across (cuts.getD k c0).pos p.saw).take j) ++ [((a_7 (ps.getD (((cuts.getD k c0).piece).toNat) q0) ((cuts.getD k c0).across) ((cuts.getD k c0).pos) p.saw).getD j q0)]))) (g_4 (ps ++ (a_7 (ps.getD (cuts.getD k c0).piece.toNat q0) (cuts.getD k c0).across (cuts.getD k c0).pos p.saw).take j) ((a_7 (ps.getD (((cuts.getD k c0).piece).toNat) q0) ((cuts.getD k c0).across) ((cuts.getD k c0).pos) p.saw).getD j q0)) (g_9 d_5 (ps ++ (a_7 (ps.getD (cuts.getD k c0).piece.toNat q0) (cuts.getD k c0).across (cuts.getD k c0).pos p.saw).take j) ((a_7 (ps.getD (((cuts.getD k c0).piece).toNat) q0) ((cuts.getD k c0).across) ((cuts.getD k c0).pos) p.saw).getD j q0)); clear BS S AT CT
    refine s1 z (a_0 rfl z.e) fun CV BC => ?_; clear z CU
    refine s2 BC (c_7 BT rfl (pv1 (evc _ _)) h_2 ty_4 ze_4 (by decide) (cs := [(Value.bool false)]) (o_0 _)) ?_
    rintro CW _ Dg ⟨DZ, rfl, AU⟩ T; clear BC BT CV
    refine s2 T (e_9 AU rfl h_2 el_4 T.e T.e (i := 4) rfl (SlAt.h_3 (n := 1) (AU.bk 0 rfl) rfl (Nat.le_of_ble_eq_true rfl)) rfl (by simp only [maxLen]; omega) (by omega)) ?_
    intro CX Bs Dh BU AA
    have BV := BU.c_5 (i := 4) rfl (n' := ((cs.set (cuts.getD k c0).piece.toNat true ++ List.replicate j false) ++ [false]).length) (xs' := (d_1 ((cs.set (cuts.getD k c0).piece.toNat true ++ List.replicate j false) ++ [false]))) (g_4 (cs.set (cuts.getD k c0).piece.toNat true ++ List.replicate j false) false) (boolC_snoc (cs.set (cuts.getD k c0).piece.toNat true ++ List.replicate j false) false); clear BU T AU CW
    refine s1 AA (a_1 rfl AA.e) fun CY AB => ?_; clear AA CX
    refine s1 AB (a_1 rfl AB.e) fun CZ BD => ?_; clear AB CY
    refine d_0 (f_8 (b_0 ?_))
    have AC := BD.as [(8, Bs), (7, Br), (12, (iv (j : Int))), (11, U), (9, (iv (k : Int))), (2, (bptr H 0)), (1, vc)] rfl; clear BD
    refine a_5 (s1 AC (a_0 rfl AC.e) fun Ca AD => ?_); clear AC CZ
    refine s1 AD (c_6 rfl AD.e (evc _ _) (by omega) (by omega)) fun Cb AE => ?_; clear AD Ca
    refine s1 AE (a_1 rfl AE.e) fun DS Bt => ?_; clear AE Cb
    refine d_0 ?_
    have Bv := BV.gkp (gpc 2 (gpc 3 (gpc 4 (gpc 5 (gpc 6 (gpc 7 (gpc 8 gpn))))))); clear BV
    exact b_0 ⟨j + 1, ⟨Br, Bs, Bt.as _ rfl, ((Bv.c_5 (i := 3) rfl (n' := (ps ++ (a_7 (ps.getD (cuts.getD k c0).piece.toNat q0) (cuts.getD k c0).across (cuts.getD k c0).pos p.saw).take (j + 1)).length) (xs' := (recC d_5 (ps ++ (a_7 (ps.getD (cuts.getD k c0).piece.toNat q0) (cuts.getD k c0).across (cuts.getD k c0).pos p.saw).take (j + 1)))) (by rw [m_8 _ _ _ (by omega)]) (by rw [m_8 _ _ _ (by omega)])).c_5 (i := 2) rfl (n' := (cs.set (cuts.getD k c0).piece.toNat true ++ List.replicate (j + 1) false).length) (xs' := (d_1 (cs.set (cuts.getD k c0).piece.toNat true ++ List.replicate (j + 1) false))) (by rw [rep_snoc]) (by rw [rep_snoc])), by omega⟩, by omega⟩
   skip
   rw [decide_eq_false BY] at A
   refine b_3 A rfl (g_5 (b_9 (b_9 (f_1 (f_8 (b_0 ?_))))))
   have AF := A.as [(9, (iv (k : Int))), (8, v8_), (7, v7_), (2, (bptr H 0)), (1, vc)] rfl; clear A
   refine a_5 (s1 AF (a_0 rfl AF.e) fun Cc AG => ?_); clear AF Ba
   refine s1 AG (c_6 rfl AG.e (evc _ _) (by omega) (by omega)) fun Cd AH => ?_; clear AG Cc
   refine s1 AH (a_1 rfl AH.e) fun DT Bu => ?_; clear AH Cd
   refine d_0 ?_
   have Bw := E.gkp (gpc 2 (gpc 3 (gpc 4 (gpc 5 (gpc 6 gpn))))); clear E
   exact b_0 ⟨k + 1, ⟨(nextPC (ps, cs) p.saw (cuts.getD k c0)).1, (nextPC (ps, cs) p.saw (cuts.getD k c0)).2, v7_, v8_, Bu.as _ rfl, ((Bw.c_5 (i := 1) rfl (n' := (nextPC (ps, cs) p.saw (cuts.getD k c0)).1.length) (xs' := (recC d_5 ((nextPC (ps, cs) p.saw (cuts.getD k c0)).1))) (by rw [show j = (a_7 (ps.getD (cuts.getD k c0).piece.toNat q0) (cuts.getD k c0).across (cuts.getD k c0).pos p.saw).length by omega, List.take_length]; rfl) (by rw [show j = (a_7 (ps.getD (cuts.getD k c0).piece.toNat q0) (cuts.getD k c0).across (cuts.getD k c0).pos p.saw).length by omega, List.take_length]; rfl)).c_5 (i := 0) rfl (n' := (nextPC (ps, cs) p.saw (cuts.getD k c0)).2.length) (xs' := (d_1 ((nextPC (ps, cs) p.saw (cuts.getD k c0)).2))) (by rw [show j = (a_7 (ps.getD (cuts.getD k c0).piece.toNat q0) (cuts.getD k c0).across (cuts.getD k c0).pos p.saw).length by omega]; rfl) (by rw [show j = (a_7 (ps.getD (cuts.getD k c0).piece.toNat q0) (cuts.getD k c0).across (cuts.getD k c0).pos p.saw).length by omega]; rfl)), by omega, (pieces_yes hu (ok_y (by assumption) (by assumption) (by assumption)))⟩, by omega⟩
  skip
  rw [AW] at K
  refine s3 K fun Ce BE => ?_; clear K By
  refine s3 BE fun Cf BF => ?_; clear BE Ce
  refine s3 BF fun Cg BG => ?_; clear BF Cf
  refine s3 BG fun Ch BH => ?_; clear BG Cg
  refine s3 BH fun Ci AI => ?_; clear BH Ch
  refine s1 AI (a_6 rfl AI.e (evc _ _)) fun Cj AJ => ?_; clear AI Ci
  refine n1 (c_1 AJ rfl (b_6 ?_))
  have BI := AJ.as [] rfl; clear AJ
  refine a_5 (s1 BI (a_1 rfl (evc _ _)) fun Ck BJ => ?_); clear BI Cj
  refine s1 BJ (a_1 rfl (evc _ _)) fun Cl BK => ?_; clear BJ Ck
  refine s1 BK (a_1 rfl (evc _ _)) fun DU BL => ?_; clear BK Cl
  exact n1 (c_3 (b_1 (d_2 (b_1 (b_1 (d_2 (b_1 (a_9 BL (.inl rfl) (g_0 BL rfl (.tmp rfl) (.tmp rfl) (.tmp rfl)) (.inl ⟨pieces_fail hu (by omega) (by first | exact ok_n1 (by assumption) | exact ok_n2 (by assumption) | exact ok_n3 (by assumption)), rfl, F.ext⟩)))))))))
 skip
 rw [decide_eq_false Bq] at D
 refine b_3 D rfl (g_5 (b_9 (b_9 (f_1 (b_0 (b_6 ?_))))))
 have AK := D.as [(8, v8_), (7, v7_)] rfl; clear D
 refine a_5 (s1 AK (a_0 rfl AK.e) fun Cm AL => ?_); clear AK Bx
 refine s1 AL (a_0 rfl AL.e) fun Cn AM => ?_; clear AL Cm
 refine s1 AM (a_1 rfl AM.e) fun Co AN => ?_; clear AM Cn
 refine s1 AN (a_1 rfl AN.e) fun Cp BM => ?_; clear AN Co
 refine s1 BM (a_1 rfl (evc _ _)) fun DV BN => ?_; clear BM Cp
 refine n1 (c_3 (a_9 BN (.inl rfl) (g_0 BN rfl (.tmp rfl) (.tmp rfl) (.tmp rfl)) ?_))
 exact .inr ⟨ps, cs, _, _, by unfold l_7; rw [show cuts.length = k by omega]; exact hu, rfl, N.keep [1, 0] (by decide) _ rfl rfl⟩
theorem pieces_ok (p : g_2) (vw : Value) (w : World) (hvw : SlAt w vw 8 p.wants.length (recC d_6 p.wants)) (cuts : List CutD) (vc : Value) (hvc : SlAt w vc 3 cuts.length (recC cutC cuts)) (hV : n_0 p) (hcl : cuts.length ≤ 100) (hcb : ∀ i, i < cuts.length → -1000 ≤ (cuts.getD i c0).pos ∧ (cuts.getD i c0).pos ≤ 1000) {ps : List Quad} {cs : List Bool} (h : l_7 p cuts = some (ps, cs)) : Calls Try.prog 15 #[.agg #[.int .i64 p.wide, .int .i64 p.long, .int .i64 p.saw, vw], vc] w (Ret fun v w' => ∃ A B, v = .tuple #[A, B, .bool true] ∧ Sep NoB w w' [row A 78 4 ps.length (recC d_5 ps), row B 4 1 cs.length (d_1 cs)]) :=
 (pieces_any p vw w hvw cuts vc hvc hV hcl hcb).mono (Ret.mono fun v w' g => by
  rcases g with ⟨g, _⟩ | ⟨ps', cs', A, B, g, e, k⟩
  ·rw [h] at g; cases g
  rw [h] at g; cases g; exact ⟨A, B, e, k⟩)
theorem pieces_none (p : g_2) (vw : Value) (w : World) (hvw : SlAt w vw 8 p.wants.length (recC d_6 p.wants)) (cuts : List CutD) (vc : Value) (hvc : SlAt w vc 3 cuts.length (recC cutC cuts)) (hV : n_0 p) (hcl : cuts.length ≤ 100) (hcb : ∀ i, i < cuts.length → -1000 ≤ (cuts.getD i c0).pos ∧ (cuts.getD i c0).pos ≤ 1000) (h : l_7 p cuts = none) : Calls Try.prog 15 #[.agg #[.int .i64 p.wide, .int .i64 p.long, .int .i64 p.saw, vw], vc] w (Ret fun v w' => v = .tuple #[.slice none 0 0, .slice none 0 0, .bool false] ∧ Ext NoB w w') :=
 (pieces_any p vw w hvw cuts vc hvc hV hcl hcb).mono (Ret.mono fun v w' g => by
  rcases g with ⟨_, e, k⟩ | ⟨ps', cs', A, B, g, _⟩
  ·exact ⟨e, k⟩
  rw [h] at g; cases g)
end Go.Proofs.Ytphkmnaohimdbaa
