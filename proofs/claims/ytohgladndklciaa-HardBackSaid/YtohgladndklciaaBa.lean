/-
  What a table of straight pieces makes of values: it rises or falls, and so do its ends.
  Tables as data; what they make of values and ranges; a narrower range is converted to a narrower one.
  Spans: the greatest ranges that all tables leave as they are; any order of cutting finds them.
  Books, machines, readings; the loop of passes ends at the widest spans.
  The spans are the widest; what holds of all solutions holds of them.
  What the laws say of spans: narrower, the same, free, in them.
  The errors of books and readings.
  How the functions find what a table makes of a value.
  Books as they lie in memory.
  When a table is one of a book: told by the first thing that is not right.
-/
import Derived.Test.YtohgladndklciaaEnga
import Derived.Test.YtohgladndklciaaProg
import Derived.Shelf.Abstract
set_option linter.unusedSimpArgs false
set_option linter.unusedVariables false
namespace Go.Hard
inductive Made (X Y : Nat → Int) (len : Nat) (B : Nat → Prop) (v lo hi : Int) : Prop
  | row (i : Nat) (hi' : i < len) (hx : X i = v) (h1 : lo = Y i) (h2 : hi = Y i)
  | piece (i : Nat) (hi' : i + 1 < len) (ha : X i < v) (hb : v < X (i + 1)) (hB : ¬ B i) (h1 : lo = Y i + ((v - X i) * (Y (i + 1) - Y i)) / (X (i + 1) - X i)) (h2 : hi = Y i + -(-((v - X i) * (Y (i + 1) - Y i)) / (X (i + 1) - X i)))
section
variable {X Y : Nat → Int} {len : Nat} {B : Nat → Prop}
theorem lt_of_step (hX : ∀ i, i + 1 < len → X i < X (i + 1)) : ∀ {i j : Nat}, i < j → j < len → X i < X j := by
  intro i j hij hj
  induction j with
  | zero => omega
  | succ j ih =>
    have := hX j hj
    rcases Nat.lt_succ_iff_lt_or_eq.1 hij with h | h
    · have := ih h (by omega); omega
    · subst h; exact this
theorem j_2 (hX : ∀ i, i + 1 < len → X i < X (i + 1)) {i j : Nat} (hij : i ≤ j) (hj : j < len) : X i ≤ X j := by
  rcases Nat.eq_or_lt_of_le hij with h | h
  · subst h; exact Int.le_refl _
  · have := lt_of_step hX h hj; omega
theorem idx_of_lt (hX : ∀ i, i + 1 < len → X i < X (i + 1)) {i j : Nat} (hi : i < len) (h : X i < X j) : i < j := by
  rcases Nat.lt_or_ge i j with h1 | h1
  · exact h1
  · have := j_2 hX h1 hi; omega
theorem t_4 {v lo hi : Int} (h : Made X Y len B v lo hi) : Made X (fun i => -Y i) len B v (-hi) (-lo) := by
  cases h with
  | row i hi' hx h1 h2 => exact .row i hi' hx (by rw [h2]) (by rw [h1])
  | piece i hi' ha hb hB h1 h2 =>
    have e : (v - X i) * (-Y (i + 1) - -Y i) = -((v - X i) * (Y (i + 1) - Y i)) := by rw [← Int.mul_neg]; congr 1; omega
    refine .piece i hi' ha hb hB ?_ ?_
    · rw [e, h2]; omega
    · rw [e, h1, Int.neg_neg]; omega
theorem div_bd {n d m : Int} (hd : 0 < d) (h0 : 0 ≤ n) (h1 : n ≤ m * d) : 0 ≤ n / d ∧ n / d ≤ m := by
  refine ⟨Int.ediv_nonneg h0 (Int.le_of_lt hd), ?_⟩
  have := Int.ediv_le_ediv hd h1
  rwa [Int.mul_ediv_cancel _ (by omega)] at this
theorem up_bd {n d m : Int} (hd : 0 < d) (h0 : 0 ≤ n) (h1 : n ≤ m * d) : 0 ≤ -(-n / d) ∧ -(-n / d) ≤ m ∧ n / d ≤ -(-n / d) := by
  have a1 : -n / d ≤ 0 := by
    have := Int.ediv_le_ediv hd (show -n ≤ 0 by omega)
    rwa [Int.zero_ediv] at this
  have a2 : -m ≤ -n / d := by
    have := Int.ediv_le_ediv hd (show -m * d ≤ -n by rw [Int.neg_mul]; omega)
    rwa [Int.mul_ediv_cancel _ (by omega)] at this
  have b1 := Int.mul_ediv_self_le (x := n) (k := d) (by omega)
  have b2 := Int.mul_ediv_self_le (x := -n) (k := d) (by omega)
  refine ⟨by omega, by omega, ?_⟩
  have : d * (n / d + -n / d) ≤ d * 0 := by rw [Int.mul_add]; omega
  have := Int.le_of_mul_le_mul_left this hd
  omega
theorem div_mono {n m d : Int} (hd : 0 < d) (h : n ≤ m) : n / d ≤ m / d ∧ -(-n / d) ≤ -(-m / d) := by
  refine ⟨Int.ediv_le_ediv hd h, ?_⟩
  have := Int.ediv_le_ediv hd (show -m ≤ -n by omega)
  omega
section rising
variable (hX : ∀ i, i + 1 < len → X i < X (i + 1)) (hY : ∀ i, i + 1 < len → Y i < Y (i + 1))
include hX hY
theorem piece_bd {i : Nat} {v : Int} (hi : i + 1 < len) (ha : X i < v) (hb : v < X (i + 1)) :
    Y i ≤ Y i + ((v - X i) * (Y (i + 1) - Y i)) / (X (i + 1) - X i) ∧ Y i + -(-((v - X i) * (Y (i + 1) - Y i)) / (X (i + 1) - X i)) ≤ Y (i + 1) ∧ Y i + ((v - X i) * (Y (i + 1) - Y i)) / (X (i + 1) - X i) ≤ Y i + -(-((v - X i) * (Y (i + 1) - Y i)) / (X (i + 1) - X i)) := by
  have h0 := hX i hi
  have h1 := hY i hi
  have hn : 0 ≤ (v - X i) * (Y (i + 1) - Y i) := Int.mul_nonneg (by omega) (by omega)
  have hm : (v - X i) * (Y (i + 1) - Y i) ≤ (Y (i + 1) - Y i) * (X (i + 1) - X i) := by
    rw [Int.mul_comm (Y (i + 1) - Y i)]
    exact Int.mul_le_mul_of_nonneg_right (by omega) (by omega)
  have a := div_bd (by omega) hn hm
  have b := up_bd (by omega) hn hm
  omega
theorem made_le {v lo hi : Int} (h : Made X Y len B v lo hi) : lo ≤ hi := by
  cases h with
  | row i hi' hx h1 h2 => omega
  | piece i hi' ha hb hB h1 h2 => have := piece_bd hX hY hi' ha hb; omega
theorem u_9 {u v l1 h1 l2 h2 : Int} (hu : Made X Y len B u l1 h1) (hv : Made X Y len B v l2 h2) (h : u ≤ v) : l1 ≤ l2 ∧ h1 ≤ h2 := by
  cases hu with
  | row i hi ex e1 e2 =>
    cases hv with
    | row j hj ey f1 f2 =>
      have hij : i ≤ j := by
        rcases Nat.lt_or_ge j i with g | g
        · have := lt_of_step hX g hi; omega
        · exact g
      have := j_2 hY hij hj
      omega
    | piece j hj ha hb hB f1 f2 =>
      have hij : i ≤ j := by
        have : i < j + 1 := idx_of_lt hX hi (by omega)
        omega
      have := j_2 hY hij (by omega)
      have := piece_bd hX hY hj ha hb
      omega
  | piece i hi ha hb hB e1 e2 =>
    have hbi := piece_bd hX hY hi ha hb
    cases hv with
    | row j hj ey f1 f2 =>
      have hij : i + 1 ≤ j := idx_of_lt hX (by omega) (by omega)
      have := j_2 hY hij hj
      omega
    | piece j hj ha' hb' hB' f1 f2 =>
      have hbj := piece_bd hX hY hj ha' hb'
      have hij : i ≤ j := by
        have : i < j + 1 := idx_of_lt hX (by omega) (by omega)
        omega
      rcases Nat.eq_or_lt_of_le hij with g | g
      · subst g
        have h0 := hX i hi
        have h3 := hY i hi
        have := div_mono (d := X (i + 1) - X i) (by omega) (Int.mul_le_mul_of_nonneg_right (show u - X i ≤ v - X i by omega) (show 0 ≤ Y (i + 1) - Y i by omega))
        omega
      · have := j_2 hY (show i + 1 ≤ j from g) (by omega)
        omega
theorem made_one {v l1 h1 l2 h2 : Int} (hu : Made X Y len B v l1 h1) (hv : Made X Y len B v l2 h2) : l1 = l2 ∧ h1 = h2 := by
  have a := u_9 hX hY hu hv (Int.le_refl _)
  have b := u_9 hX hY hv hu (Int.le_refl _)
  omega
end rising
theorem made_ex (hX : ∀ i, i + 1 < len → X i < X (i + 1)) {v : Int} (h0 : X 0 ≤ v) (h1 : v ≤ X (len - 1)) (hl : 0 < len) : (∃ lo hi, Made X Y len B v lo hi) ∨ ∃ i, i + 1 < len ∧ X i < v ∧ v < X (i + 1) ∧ B i := by
  have key : ∀ k, k < len → v ≤ X k → (∃ lo hi, Made X Y len B v lo hi) ∨ ∃ i, i + 1 < len ∧ X i < v ∧ v < X (i + 1) ∧ B i := by
    intro k
    induction k with
    | zero => intro hk hv; exact .inl ⟨_, _, .row 0 hk (by omega) rfl rfl⟩
    | succ k ih =>
      intro hk hv
      by_cases hv' : v ≤ X k
      · exact ih (by omega) hv'
      · by_cases he : v = X (k + 1)
        · exact .inl ⟨_, _, .row (k + 1) hk he.symm rfl rfl⟩
        · by_cases hB : B k
          · exact .inr ⟨k, hk, by omega, by omega, hB⟩
          · exact .inl ⟨_, _, .piece k hk (by omega) (by omega) hB rfl rfl⟩
  exact key (len - 1) (by omega) h1
end
structure Rows (X Y : Nat → Int) (len : Nat) : Prop where
  x : ∀ i, i + 1 < len → X i < X (i + 1)
  y : (∀ i, i + 1 < len → Y i < Y (i + 1)) ∨ ∀ i, i + 1 < len → Y (i + 1) < Y i
section
variable {X Y : Nat → Int} {len : Nat} {B : Nat → Prop} (h : Rows X Y len)
include h
theorem Rows.le {v lo hi : Int} (hm : Made X Y len B v lo hi) : lo ≤ hi := by
  rcases h.y with hy | hy
  · exact made_le h.x hy hm
  · have := made_le (Y := fun i => -Y i) h.x (fun i hi => by have := hy i hi; omega) (t_4 hm); omega
theorem Rows.one {v l1 h1 l2 h2 : Int} (hu : Made X Y len B v l1 h1) (hv : Made X Y len B v l2 h2) : l1 = l2 ∧ h1 = h2 := by
  rcases h.y with hy | hy
  · exact made_one h.x hy hu hv
  · have := made_one (Y := fun i => -Y i) h.x (fun i hi => by have := hy i hi; omega) (t_4 hu) (t_4 hv); omega
theorem Rows.between {u v x l1 h1 l2 h2 l3 h3 : Int} (hu : Made X Y len B u l1 h1) (hv : Made X Y len B v l2 h2) (hx : Made X Y len B x l3 h3) (hux : u ≤ x) (hxv : x ≤ v) : min l1 l2 ≤ l3 ∧ h3 ≤ max h1 h2 := by
  rcases h.y with hy | hy
  · have a := u_9 h.x hy hu hx hux
    have b := u_9 h.x hy hx hv hxv
    omega
  · have hy' : ∀ i, i + 1 < len → (fun i => -Y i) i < (fun i => -Y i) (i + 1) := fun i hi => by have := hy i hi; show -Y i < -Y (i + 1); omega
    have a := u_9 h.x hy' (t_4 hu) (t_4 hx) hux
    have b := u_9 h.x hy' (t_4 hx) (t_4 hv) hxv
    omega
end
end Go.Hard

namespace Go.Hard
abbrev Rng := Int × Int
structure TabD where
  frm : Int
  dst : Int
  rows : List (Int × Int)
  brk : List Int
  err : Int
deriving DecidableEq
def tab0 : TabD := ⟨0, 0, [], [], 0⟩
def tx (t : TabD) (i : Nat) : Int := (t.rows.getD i (0, 0)).1
def ty (t : TabD) (i : Nat) : Int := (t.rows.getD i (0, 0)).2
structure TabV (n : Int) (t : TabD) : Prop where
  frm : 0 ≤ t.frm ∧ t.frm < n
  dst : 0 ≤ t.dst ∧ t.dst < n
  ne : t.frm ≠ t.dst
  err : 0 ≤ t.err ∧ t.err ≤ 1000
  len : 2 ≤ t.rows.length
  bnd : ∀ i, i < t.rows.length → (1 ≤ tx t i ∧ tx t i ≤ 100000) ∧ 1 ≤ ty t i ∧ ty t i ≤ 100000
  rows : Rows (tx t) (ty t) t.rows.length
  brk : ∀ b ∈ t.brk, 0 ≤ b ∧ b ≤ (t.rows.length : Int) - 2
def broken (t : TabD) (i : Nat) : Prop := (i : Int) ∈ t.brk
instance (t : TabD) (i : Nat) : Decidable (broken t i) := inferInstanceAs (Decidable (_ ∈ _))
def pieceN (t : TabD) (v : Int) (i : Nat) : Int := (v - tx t i) * (ty t (i + 1) - ty t i)
def pieceD (t : TabD) (i : Nat) : Int := tx t (i + 1) - tx t i
def pieceR (t : TabD) (v : Int) (i : Nat) : Rng := (ty t i + pieceN t v i / pieceD t i, ty t i + -(-pieceN t v i / pieceD t i))
def l_6 (t : TabD) (v : Int) (i : Nat) : Bool := decide (tx t i < v) && decide (v < tx t (i + 1)) && !decide (broken t i)
def atRow (t : TabD) (v : Int) (i : Nat) : Bool := decide (tx t i = v)
def r_2 (t : TabD) (v : Int) : Option Rng :=
  match (List.range t.rows.length).find? (atRow t v) with
  | some i => some (ty t i, ty t i)
  | none => match (List.range (t.rows.length - 1)).find? (l_6 t v) with
    | some i => some (pieceR t v i)
    | none => none
abbrev y_8 (t : TabD) (v lo hi : Int) : Prop := Made (tx t) (ty t) t.rows.length (broken t) v lo hi
theorem made_is {t : TabD} {v : Int} {r : Rng} (h : r_2 t v = some r) : y_8 t v r.1 r.2 := by
  unfold r_2 at h
  split at h
  · rename_i i hf
    have hi := List.mem_range.1 (List.mem_of_find?_eq_some hf)
    have hx : atRow t v i = true := List.find?_some hf
    obtain rfl := Option.some.inj h
    exact .row i hi (of_decide_eq_true hx) rfl rfl
  · split at h
    · rename_i i hf
      have hi := List.mem_range.1 (List.mem_of_find?_eq_some hf)
      have hx := List.find?_some hf
      unfold l_6 at hx
      simp only [Bool.and_eq_true, decide_eq_true_eq, Bool.not_eq_true', decide_eq_false_iff_not] at hx
      obtain rfl := Option.some.inj h
      exact .piece i (by omega) hx.1.1 hx.1.2 hx.2 rfl rfl
    · cases h
theorem made_some {t : TabD} {v lo hi : Int} (h : y_8 t v lo hi) : ∃ r, r_2 t v = some r := by
  unfold r_2
  split
  · exact ⟨_, rfl⟩
  · rename_i hn
    split
    · exact ⟨_, rfl⟩
    · rename_i hn2
      exfalso
      cases h with
      | row i hi hx h1 h2 => exact List.find?_eq_none.1 hn i (List.mem_range.2 hi) (decide_eq_true hx)
      | piece i hi ha hb hB h1 h2 =>
        refine List.find?_eq_none.1 hn2 i (List.mem_range.2 (by omega)) ?_
        unfold l_6
        simp only [Bool.and_eq_true, decide_eq_true_eq, Bool.not_eq_true', decide_eq_false_iff_not]
        exact ⟨⟨ha, hb⟩, hB⟩
theorem made_iff {n : Int} {t : TabD} {v lo hi : Int} (hV : TabV n t) : r_2 t v = some (lo, hi) ↔ y_8 t v lo hi := by
  constructor
  · intro h; exact made_is h
  · intro h
    obtain ⟨r, e⟩ := made_some h
    have := hV.rows.one (made_is e) h
    rw [e]; congr 1; exact Prod.ext this.1 this.2
def o_9 (t : TabD) (r : Rng) : Bool := decide (tx t 0 ≤ r.1) && decide (r.2 ≤ tx t (t.rows.length - 1)) && t.brk.all fun b => decide (r.2 ≤ tx t b.toNat) || decide (tx t (b.toNat + 1) ≤ r.1)
def endsF (t : TabD) (a b : Rng) : Rng := (min a.1 b.1 - t.err, max a.2 b.2 + t.err)
def k_2 (t : TabD) (r : Rng) : Rng := endsF t ((r_2 t r.1).getD (0, 0)) ((r_2 t r.2).getD (0, 0))
theorem u_7 {t : TabD} {r : Rng} : o_9 t r = true ↔ tx t 0 ≤ r.1 ∧ r.2 ≤ tx t (t.rows.length - 1) ∧ ∀ b ∈ t.brk, r.2 ≤ tx t b.toNat ∨ tx t (b.toNat + 1) ≤ r.1 := by
  unfold o_9
  simp only [Bool.and_eq_true, decide_eq_true_eq, List.all_eq_true, Bool.or_eq_true, and_assoc]
section
variable {n : Int} {t : TabD} {r r' : Rng}
theorem conv_made (hV : TabV n t) (hc : o_9 t r = true) {v : Int} (h1 : r.1 ≤ v) (h2 : v ≤ r.2) : ∃ lo hi, y_8 t v lo hi := by
  have hc := u_7.1 hc
  have hl := hV.len
  rcases made_ex (Y := ty t) (B := broken t) hV.rows.x (v := v) (by omega) (by omega) (by omega) with h | ⟨i, hi, ha, hb, hB⟩
  · exact h
  · have := hc.2.2 _ hB
    rw [show ((i : Nat) : Int).toNat = i from rfl] at this
    omega
theorem conv_narrow (hc : o_9 t r = true) (h1 : r.1 ≤ r'.1) (h2 : r'.2 ≤ r.2) : o_9 t r' = true := by
  have hc := u_7.1 hc
  refine u_7.2 ⟨by omega, by omega, fun b hb => ?_⟩
  have := hc.2.2 b hb
  omega
theorem conv_ends (hV : TabV n t) (hc : o_9 t r = true) (h : r.1 ≤ r.2) : ∃ l1 h1 l2 h2, y_8 t r.1 l1 h1 ∧ y_8 t r.2 l2 h2 ∧ k_2 t r = (min l1 l2 - t.err, max h1 h2 + t.err) := by
  obtain ⟨l1, h1, m1⟩ := conv_made hV hc (Int.le_refl _) h
  obtain ⟨l2, h2, m2⟩ := conv_made hV hc h (Int.le_refl _)
  refine ⟨l1, h1, l2, h2, m1, m2, ?_⟩
  unfold k_2
  rw [(made_iff hV).2 m1, (made_iff hV).2 m2]; rfl
theorem conv_in (hV : TabV n t) (hc : o_9 t r = true) {v lo hi : Int} (h1 : r.1 ≤ v) (h2 : v ≤ r.2) (hm : y_8 t v lo hi) : (k_2 t r).1 ≤ lo - t.err ∧ hi + t.err ≤ (k_2 t r).2 := by
  obtain ⟨a, b, c, d, m1, m2, e⟩ := conv_ends hV hc (by omega)
  have := hV.rows.between m1 m2 hm h1 h2
  rw [e]; dsimp only; omega
theorem conv_sub (hV : TabV n t) (hc : o_9 t r = true) (h1 : r.1 ≤ r'.1) (h2 : r'.2 ≤ r.2) (hf : r'.1 ≤ r'.2) : o_9 t r' = true ∧ (k_2 t r).1 ≤ (k_2 t r').1 ∧ (k_2 t r').2 ≤ (k_2 t r).2 := by
  have hc' := conv_narrow hc h1 h2
  obtain ⟨a, b, c, d, m1, m2, e⟩ := conv_ends hV hc' hf
  have b1 := conv_in hV hc h1 (by omega) m1
  have b2 := conv_in hV hc (by omega) h2 m2
  refine ⟨hc', ?_⟩
  rw [e]; dsimp only; omega
end
end Go.Hard

namespace Go.Hard
abbrev g_6 := List Rng
def rng0 : Rng := (0, 100000)
def at' (s : g_6) (i : Nat) : Rng := s.getD i (0, 0)
def cutR (a b : Rng) : Rng := (max a.1 b.1, min a.2 b.2)
def Sub (n : Nat) (s s' : g_6) : Prop := ∀ i, i < n → (at' s' i).1 ≤ (at' s i).1 ∧ (at' s i).2 ≤ (at' s' i).2
def Full (n : Nat) (s : g_6) : Prop := ∀ i, i < n → (at' s i).1 ≤ (at' s i).2
def Stable1 (t : TabD) (s : g_6) : Prop := o_9 t (at' s t.frm.toNat) = true → (k_2 t (at' s t.frm.toNat)).1 ≤ (at' s t.dst.toNat).1 ∧ (at' s t.dst.toNat).2 ≤ (k_2 t (at' s t.frm.toNat)).2
def Stable (ts : List TabD) (s : g_6) : Prop := ∀ t ∈ ts, Stable1 t s
structure Sol (n : Nat) (ts : List TabD) (s0 s : g_6) : Prop where
  sub : Sub n s s0
  full : Full n s
  stable : Stable ts s
def Widest (n : Nat) (ts : List TabD) (s0 : g_6) (r : Option g_6) : Prop :=
  match r with
  | some s => s.length = n ∧ Sol n ts s0 s ∧ ∀ s', Sol n ts s0 s' → Sub n s' s
  | none => ∀ s', ¬ Sol n ts s0 s'
theorem Sub.refl (n : Nat) (s : g_6) : Sub n s s := fun _ _ => ⟨Int.le_refl _, Int.le_refl _⟩
theorem Sub.trans {n : Nat} {a b c : g_6} (h1 : Sub n a b) (h2 : Sub n b c) : Sub n a c := fun i hi => by
  have := h1 i hi; have := h2 i hi; omega
theorem Sub.eq {n : Nat} {a b : g_6} (ha : a.length = n) (hb : b.length = n) (h1 : Sub n a b) (h2 : Sub n b a) : a = b := by
  refine List.ext_getElem (by omega) fun i hi hi' => ?_
  have x1 := h1 i (by omega)
  have x2 := h2 i (by omega)
  simp only [at', List.getD, List.getElem?_eq_getElem hi, List.getElem?_eq_getElem hi', Option.getD_some] at x1 x2
  exact Prod.ext (by omega) (by omega)
theorem Widest.first {n : Nat} {ts : List TabD} {s0 s1 : g_6} {r : Option g_6} (h : Widest n ts s0 r) (h1 : Sub n s0 s1) (h2 : Sub n s1 s0) : Widest n ts s1 r := by
  have key : ∀ s, Sol n ts s0 s ↔ Sol n ts s1 s := fun s => ⟨fun g => ⟨g.sub.trans h1, g.full, g.stable⟩, fun g => ⟨g.sub.trans h2, g.full, g.stable⟩⟩
  cases r with
  | none => exact fun s' g => h s' ((key s').2 g)
  | some s => exact ⟨h.1, (key s).1 h.2.1, fun s' g => h.2.2 s' ((key s').2 g)⟩
def u_4 (t : TabD) (s : g_6) : g_6 := if o_9 t (at' s t.frm.toNat) then s.set t.dst.toNat (cutR (at' s t.dst.toNat) (k_2 t (at' s t.frm.toNat))) else s
theorem at_set {s : g_6} {i j : Nat} {r : Rng} (hi : i < s.length) : at' (s.set i r) j = if i = j then r else at' s j := by
  unfold at'
  by_cases h : i = j
  · subst h; rw [if_pos rfl]; simp [List.getD, hi]
  · rw [if_neg h]; simp [List.getD, h]
theorem step_len (t : TabD) (s : g_6) : (u_4 t s).length = s.length := by
  unfold u_4; split
  · exact List.length_set
  · rfl
section
variable {n : Nat} {t : TabD} {s s' s0 : g_6} {ts : List TabD}
theorem step_le (hV : TabV n t) (hl : n ≤ s.length) : Sub n (u_4 t s) s := by
  unfold u_4
  split
  · intro i hi
    have hd := hV.dst
    rw [at_set (by omega)]
    split
    · rename_i e; rw [e]; dsimp only [cutR]; omega
    · exact ⟨Int.le_refl _, Int.le_refl _⟩
  · exact Sub.refl n s
theorem step_ub (hV : TabV n t) (hl : n ≤ s.length) (hf : Full n s') (hs : Stable1 t s') (h : Sub n s' s) : Sub n s' (u_4 t s) := by
  unfold u_4
  split
  · rename_i hc
    have hd := hV.dst
    have hr := hV.frm
    have hfr := h t.frm.toNat (by omega)
    have hff := hf t.frm.toNat (by omega)
    have hk := conv_sub hV hc hfr.1 hfr.2 hff
    have hst := hs hk.1
    intro i hi
    rw [at_set (by omega)]
    have hi' := h i hi
    split
    · rename_i e
      subst e
      dsimp only [cutR]
      omega
    · exact hi'
  · exact h
theorem step_same (hV : TabV n t) (hl : n ≤ s.length) (h : Sub n s (u_4 t s)) : Stable1 t s := by
  intro hc
  have hd := hV.dst
  have := h t.dst.toNat (by omega)
  unfold u_4 at this
  rw [if_pos hc, at_set (by omega), if_pos rfl] at this
  dsimp only [cutR] at this
  omega
structure Ub (n : Nat) (ts : List TabD) (s0 s : g_6) : Prop where
  sub : Sub n s s0
  all : ∀ s', Sol n ts s0 s' → Sub n s' s
theorem Ub.start : Ub n ts s0 s0 := ⟨Sub.refl n s0, fun _ h => h.sub⟩
theorem Ub.step (h : Ub n ts s0 s) (hV : TabV n t) (ht : t ∈ ts) (hl : n ≤ s.length) : Ub n ts s0 (u_4 t s) :=
  ⟨(step_le hV hl).trans h.sub, fun s' g => step_ub hV hl g.full (g.stable t ht) (h.all s' g)⟩
theorem Ub.none {i : Nat} (h : Ub n ts s0 s) (hi : i < n) (he : (at' s i).2 < (at' s i).1) : Widest n ts s0 none := fun s' g => by
  have := h.all s' g i hi
  have := g.full i hi
  omega
theorem at_take {i : Nat} (hi : i < n) : at' (s.take n) i = at' s i := by
  unfold at'; simp [List.getD, List.getElem?_take, hi]
theorem Ub.some (h : Ub n ts s0 s) (hl : n ≤ s.length) (hf : Full n s) (hV : ∀ t ∈ ts, TabV n t) (hs : Stable ts s) : Widest n ts s0 (some (s.take n)) := by
  have e1 : Sub n (s.take n) s := fun i hi => by rw [at_take hi]; exact ⟨Int.le_refl _, Int.le_refl _⟩
  have e2 : Sub n s (s.take n) := fun i hi => by rw [at_take hi]; exact ⟨Int.le_refl _, Int.le_refl _⟩
  refine ⟨by rw [List.length_take]; omega, ⟨e1.trans h.sub, fun i hi => by rw [at_take hi]; exact hf i hi, fun t ht => ?_⟩, fun s' g => (h.all s' g).trans e2⟩
  have hv := hV t ht
  have h1 := hv.frm
  have h2 := hv.dst
  unfold Stable1
  rw [at_take (show t.frm.toNat < n by omega), at_take (show t.dst.toNat < n by omega)]
  exact hs t ht
end
def goS (x : g_6 × Bool) (t : TabD) : g_6 × Bool :=
  if x.2 then x else if (at' x.1 t.dst.toNat).2 < (at' x.1 t.dst.toNat).1 then (x.1, true) else (u_4 t x.1, false)
def g_5 (ts : List TabD) (s : g_6) : g_6 × Bool := ts.foldl goS (s, false)
theorem go_stop : ∀ (b : List TabD) (s : g_6), b.foldl goS (s, true) = (s, true)
  | [], _ => rfl
  | t :: b, s => by rw [List.foldl_cons]; exact go_stop b s
theorem pass_len : ∀ (ts : List TabD) (x : g_6 × Bool), (ts.foldl goS x).1.length = x.1.length
  | [], _ => rfl
  | t :: ts, x => by
    rw [List.foldl_cons, pass_len ts]
    unfold goS; split
    · rfl
    · split
      · rfl
      · exact step_len _ _
section
variable {n : Nat} {s0 : g_6} {all : List TabD}
theorem pass_le : ∀ (ts : List TabD) (x : g_6 × Bool), (∀ t ∈ ts, TabV n t) → n ≤ x.1.length → Sub n (ts.foldl goS x).1 x.1
  | [], x, _, _ => Sub.refl n x.1
  | t :: ts, x, hV, hl => by
    rw [List.foldl_cons]
    have h1 : Sub n (goS x t).1 x.1 ∧ (goS x t).1.length = x.1.length := by
      unfold goS; split
      · exact ⟨Sub.refl _ _, rfl⟩
      · split
        · exact ⟨Sub.refl _ _, rfl⟩
        · exact ⟨step_le (hV t (List.mem_cons_self ..)) hl, step_len _ _⟩
    exact (pass_le ts _ (fun t ht => hV t (List.mem_cons_of_mem _ ht)) (by omega)).trans h1.1
theorem pass_ub : ∀ (ts : List TabD) (x : g_6 × Bool), (∀ t ∈ ts, TabV n t ∧ t ∈ all) → n ≤ x.1.length → Ub n all s0 x.1 → Ub n all s0 (ts.foldl goS x).1
  | [], _, _, _, h => h
  | t :: ts, x, hV, hl, h => by
    rw [List.foldl_cons]
    have ht := hV t (List.mem_cons_self ..)
    have h1 : Ub n all s0 (goS x t).1 ∧ (goS x t).1.length = x.1.length := by
      unfold goS; split
      · exact ⟨h, rfl⟩
      · split
        · exact ⟨h, rfl⟩
        · exact ⟨h.step ht.1 ht.2 hl, step_len _ _⟩
    exact pass_ub ts _ (fun t ht => hV t (List.mem_cons_of_mem _ ht)) (by omega) h1.1
theorem pass_same : ∀ (ts : List TabD) (s : g_6), (∀ t ∈ ts, TabV n t) → n ≤ s.length → Full n s → Sub n s (ts.foldl goS (s, false)).1 → ∀ t ∈ ts, Stable1 t s
  | [], _, _, _, _, _, t, ht => by cases ht
  | u :: ts, s, hV, hl, hf, h, t, ht => by
    rw [List.foldl_cons] at h
    have hu := hV u (List.mem_cons_self ..)
    have hd := hu.dst
    have hne : ¬ (at' s u.dst.toNat).2 < (at' s u.dst.toNat).1 := by have := hf u.dst.toNat (by omega); omega
    have hg : goS (s, false) u = (u_4 u s, false) := by
      unfold goS; rw [if_neg (by simp), if_neg hne]
    rw [hg] at h
    have hle := pass_le ts (u_4 u s, false) (fun t ht => hV t (List.mem_cons_of_mem _ ht)) (by show n ≤ (u_4 u s).length; rw [step_len]; exact hl)
    have hs : Sub n s (u_4 u s) := h.trans hle
    have hst := step_same hu hl hs
    rcases List.mem_cons.1 ht with rfl | ht
    · exact hst
    · have hsl := step_le hu hl
      have hst' : ∀ t ∈ ts, Stable1 t (u_4 u s) := pass_same ts (u_4 u s) (fun t ht => hV t (List.mem_cons_of_mem _ ht)) (by rw [step_len]; exact hl) (fun i hi => by have := hf i hi; have := hs i hi; omega) (by
        refine Sub.trans hsl h)
      have hv := hV t (List.mem_cons_of_mem _ ht)
      have := hst' t ht
      have q1 := hv.frm
      have q2 := hv.dst
      have eq : ∀ i, i < n → at' (u_4 u s) i = at' s i := fun i hi => by
        have a := hs i hi; have b := hsl i hi
        exact Prod.ext (by omega) (by omega)
      unfold Stable1 at this ⊢
      rwa [eq _ (show t.frm.toNat < n by omega), eq _ (show t.dst.toNat < n by omega)] at this
end
end Go.Hard

namespace Go.Hard
theorem step_out {n : Nat} {t : TabD} {s : g_6} {j : Nat} (hV : TabV n t) (hj : n ≤ j) : at' (u_4 t s) j = at' s j := by
  unfold u_4
  split
  · have := hV.dst
    unfold at'
    have hne : t.dst.toNat ≠ j := by omega
    simp [List.getD, hne]
  · rfl
theorem pass_out {n : Nat} {j : Nat} (hj : n ≤ j) : ∀ (ts : List TabD) (x : g_6 × Bool), (∀ t ∈ ts, TabV n t) → at' (ts.foldl goS x).1 j = at' x.1 j
  | [], _, _ => rfl
  | t :: ts, x, hV => by
    rw [List.foldl_cons, pass_out hj ts _ (fun t ht => hV t (List.mem_cons_of_mem _ ht))]
    unfold goS; split
    · rfl
    · split
      · rfl
      · exact step_out (hV t (List.mem_cons_self ..)) hj
def wide (r : Rng) : Nat := (r.2 - r.1).toNat
def width (s : g_6) : Nat := wide (at' s 0) + wide (at' s 1) + wide (at' s 2) + wide (at' s 3)
def aa_1 (n : Nat) (s : g_6) : Bool := (List.range n).all fun i => decide ((at' s i).1 ≤ (at' s i).2)
theorem full_iff {n : Nat} {s : g_6} : aa_1 n s = true ↔ Full n s := by
  unfold aa_1 Full
  simp only [List.all_eq_true, List.mem_range, decide_eq_true_eq]
theorem wide_le {r r' : Rng} (h1 : r.1 ≤ r'.1) (h2 : r'.2 ≤ r.2) : wide r' ≤ wide r := by unfold wide; omega
theorem wide_lt {r r' : Rng} (h1 : r.1 ≤ r'.1) (h2 : r'.2 ≤ r.2) (hf : r'.1 ≤ r'.2) (hn : r' ≠ r) : wide r' < wide r := by
  unfold wide
  have : ¬ (r'.1 = r.1 ∧ r'.2 = r.2) := fun h => hn (Prod.ext h.1 h.2)
  omega
theorem width_lt {n : Nat} {x s : g_6} (hn : n ≤ 4) (hx : x.length = 4) (hs : s.length = 4) (hle : Sub n x s) (hout : ∀ j, n ≤ j → at' x j = at' s j) (hf : Full n x) (hne : x ≠ s) : width x < width s := by
  have each : ∀ i, wide (at' x i) ≤ wide (at' s i) ∧ (at' x i ≠ at' s i → wide (at' x i) < wide (at' s i)) := fun i => by
    by_cases hi : i < n
    · have := hle i hi
      exact ⟨wide_le this.1 this.2, fun h => wide_lt this.1 this.2 (hf i hi) h⟩
    · rw [hout i (by omega)]; exact ⟨Nat.le_refl _, fun h => absurd rfl h⟩
  have hex : at' x 0 ≠ at' s 0 ∨ at' x 1 ≠ at' s 1 ∨ at' x 2 ≠ at' s 2 ∨ at' x 3 ≠ at' s 3 := by
    rcases Decidable.em (at' x 0 = at' s 0) with h0 | h0
    · rcases Decidable.em (at' x 1 = at' s 1) with h1 | h1
      · rcases Decidable.em (at' x 2 = at' s 2) with h2 | h2
        · rcases Decidable.em (at' x 3 = at' s 3) with h3 | h3
          · refine absurd (List.ext_getElem (by omega) fun i hi hi' => ?_) hne
            have key : at' x i = at' s i := by
              rw [hx] at hi
              match i, hi with
              | 0, _ => exact h0
              | 1, _ => exact h1
              | 2, _ => exact h2
              | 3, _ => exact h3
            simpa only [at', List.getD, List.getElem?_eq_getElem hi, List.getElem?_eq_getElem hi', Option.getD_some] using key
          · exact .inr (.inr (.inr h3))
        · exact .inr (.inr (.inl h2))
      · exact .inr (.inl h1)
    · exact .inl h0
  have e0 := each 0; have e1 := each 1; have e2 := each 2; have e3 := each 3
  unfold width
  rcases hex with h | h | h | h
  · have := e0.2 h; omega
  · have := e1.2 h; omega
  · have := e2.2 h; omega
  · have := e3.2 h; omega
def s_9 (n : Nat) (ts : List TabD) : Nat → g_6 → Option g_6
  | 0, _ => none
  | k + 1, s => if aa_1 n (g_5 ts s).1 then (if (g_5 ts s).1 = s then some (s.take n) else s_9 n ts k (g_5 ts s).1) else none
structure Loop (n : Nat) (ts : List TabD) (s0 s : g_6) : Prop where
  len : s.length = 4
  full : Full n s
  ub : Ub n ts s0 s
section
variable {n : Nat} {ts all : List TabD} {s0 s : g_6}
theorem Loop.pass (h : Loop n all s0 s) (hn : n ≤ 4) (hV : ∀ t ∈ ts, TabV n t ∧ t ∈ all) : (g_5 ts s).1.length = 4 ∧ Ub n all s0 (g_5 ts s).1 ∧ Sub n (g_5 ts s).1 s ∧ ∀ j, n ≤ j → at' (g_5 ts s).1 j = at' s j :=
  ⟨by rw [g_5, pass_len]; exact h.len, pass_ub ts (s, false) hV (by show n ≤ s.length; rw [h.len]; exact hn) h.ub, pass_le ts (s, false) (fun t ht => (hV t ht).1) (by show n ≤ s.length; rw [h.len]; exact hn), fun _ hj => pass_out hj ts (s, false) fun t ht => (hV t ht).1⟩
theorem Loop.next (h : Loop n all s0 s) (hn : n ≤ 4) (hV : ∀ t ∈ ts, TabV n t ∧ t ∈ all) (hf : Full n (g_5 ts s).1) (hne : (g_5 ts s).1 ≠ s) : Loop n all s0 (g_5 ts s).1 ∧ width (g_5 ts s).1 < width s := by
  have g := h.pass hn hV
  exact ⟨⟨g.1, hf, g.2.1⟩, width_lt hn g.1 h.len g.2.2.1 g.2.2.2 hf hne⟩
theorem Loop.done (h : Loop n all s0 s) (hn : n ≤ 4) (hV : ∀ t ∈ ts, TabV n t ∧ t ∈ all) (ha : ∀ t ∈ all, t ∈ ts) (he : (g_5 ts s).1 = s) : Widest n all s0 (some (s.take n)) := by
  have hst := pass_same (n := n) ts s (fun t ht => (hV t ht).1) (by rw [h.len]; exact hn) h.full (by
    show Sub n s (g_5 ts s).1
    rw [he]; exact Sub.refl n s)
  exact h.ub.some (by rw [h.len]; exact hn) h.full (fun t ht => (hV t (ha t ht)).1) fun t ht => hst t (ha t ht)
end
structure MacD where
  scale : Int
  blocks : List (Int × Int × Int)
deriving DecidableEq
def mac0 : MacD := ⟨0, []⟩
structure h_5 where
  scales : Int
  tabs : List TabD
  macs : List MacD
def n_3 (bl : List (Int × Int × Int)) : Nat → Rng
  | 0 => (-100000, 100000)
  | k + 1 => cutR (n_3 bl k) ((bl.getD k (0, 0, 0)).2.2 - (bl.getD k (0, 0, 0)).2.1, (bl.getD k (0, 0, 0)).2.2 - (bl.getD k (0, 0, 0)).1)
def d_9 (m : MacD) : Rng := n_3 m.blocks m.blocks.length
def offB (m : MacD) : Bool := decide ((d_9 m).2 < (d_9 m).1)
structure MacV (n : Int) (m : MacD) : Prop where
  scale : 0 ≤ m.scale ∧ m.scale < n
  blocks : ∀ i, i < m.blocks.length → (0 ≤ (m.blocks.getD i (0, 0, 0)).1 ∧ (m.blocks.getD i (0, 0, 0)).1 ≤ (m.blocks.getD i (0, 0, 0)).2.1 ∧ (m.blocks.getD i (0, 0, 0)).2.1 ≤ 100000) ∧ 0 ≤ (m.blocks.getD i (0, 0, 0)).2.2 ∧ (m.blocks.getD i (0, 0, 0)).2.2 ≤ 100000
structure q_7 (b : h_5) : Prop where
  scales : 1 ≤ b.scales ∧ b.scales ≤ 4
  tlen : b.tabs.length ≤ 6
  mlen : b.macs.length ≤ 6
  rows : ∀ t ∈ b.tabs, t.rows.length ≤ 8
  blks : ∀ m ∈ b.macs, m.blocks.length ≤ 5
  tabs : ∀ t ∈ b.tabs, TabV b.scales t
  macs : ∀ m ∈ b.macs, MacV b.scales m
def c_3 (b : h_5) (l : List (Int × Int)) (s : g_6) : Nat → g_6
  | 0 => s
  | k + 1 => (c_3 b l s k).set (b.macs.getD (l.getD k (0, 0)).1.toNat mac0).scale.toNat (cutR (at' (c_3 b l s k) (b.macs.getD (l.getD k (0, 0)).1.toNat mac0).scale.toNat) ((l.getD k (0, 0)).2 - (d_9 (b.macs.getD (l.getD k (0, 0)).1.toNat mac0)).2, (l.getD k (0, 0)).2 - (d_9 (b.macs.getD (l.getD k (0, 0)).1.toNat mac0)).1))
def e_4 : g_6 := [rng0, rng0, rng0, rng0]
def x_5 (b : h_5) (l : List (Int × Int)) : g_6 := c_3 b l e_4 l.length
def f_8 (n : Nat) (ts : List TabD) : List TabD := (List.range n).flatMap fun (to : Nat) => (List.range n).flatMap fun (frm : Nat) => ts.filter fun t => decide (t.frm = (frm : Int)) && decide (t.dst = (to : Int))
theorem mem_order {n : Nat} {ts : List TabD} {t : TabD} : t ∈ f_8 n ts → t ∈ ts := by
  unfold f_8
  intro h
  obtain ⟨a, _, h⟩ := List.mem_flatMap.1 h
  obtain ⟨b, _, h⟩ := List.mem_flatMap.1 h
  exact (List.mem_filter.1 h).1
def w_4 (b : h_5) (l : List (Int × Int)) : Option g_6 :=
  if aa_1 b.scales.toNat (x_5 b l) then s_9 b.scales.toNat (f_8 b.scales.toNat b.tabs) 400001 (x_5 b l) else none
end Go.Hard

namespace Go.Hard
structure y_9 (b : h_5) (l : List (Int × Int)) : Prop where
  len : l.length ≤ 8
  mac : ∀ i, i < l.length → 0 ≤ (l.getD i (0, 0)).1 ∧ (l.getD i (0, 0)).1 < b.macs.length
  read : ∀ i, i < l.length → 0 ≤ (l.getD i (0, 0)).2 ∧ (l.getD i (0, 0)).2 ≤ 100000
  off : ∀ i, i < l.length → offB (b.macs.getD (l.getD i (0, 0)).1.toNat mac0) = false
theorem n_4 {α : Type} {l : List α} {i : Nat} {d : α} (h : i < l.length) : l.getD i d ∈ l := by
  simp only [List.getD, List.getElem?_eq_getElem h, Option.getD_some]; exact List.getElem_mem h
theorem v_2 (b : h_5) (l : List (Int × Int)) (s : g_6) : ∀ k, (c_3 b l s k).length = s.length
  | 0 => rfl
  | k + 1 => by rw [c_3, List.length_set]; exact v_2 b l s k
section
variable {b : h_5} {l : List (Int × Int)} {s : g_6}
def o_7 (b : h_5) (l : List (Int × Int)) (k : Nat) : Nat := (b.macs.getD (l.getD k (0, 0)).1.toNat mac0).scale.toNat
def rangeOf (b : h_5) (l : List (Int × Int)) (k : Nat) : Rng := ((l.getD k (0, 0)).2 - (d_9 (b.macs.getD (l.getD k (0, 0)).1.toNat mac0)).2, (l.getD k (0, 0)).2 - (d_9 (b.macs.getD (l.getD k (0, 0)).1.toNat mac0)).1)
theorem startU_succ (k : Nat) : c_3 b l s (k + 1) = (c_3 b l s k).set (o_7 b l k) (cutR (at' (c_3 b l s k) (o_7 b l k)) (rangeOf b l k)) := rfl
theorem y_9.macV (hb : q_7 b) (hl : y_9 b l) {k : Nat} (hk : k < l.length) : MacV b.scales (b.macs.getD (l.getD k (0, 0)).1.toNat mac0) := by
  have := hl.mac k hk
  exact hb.macs _ (n_4 (by omega))
theorem scale_lt (hb : q_7 b) (hl : y_9 b l) {k : Nat} (hk : k < l.length) : o_7 b l k < b.scales.toNat := by
  have := (hl.macV hb hk).scale
  unfold o_7; omega
theorem start_iff (hb : q_7 b) (hl : y_9 b l) {n : Nat} (hn : n = b.scales.toNat) (hs : n ≤ s.length) {s' : g_6} : ∀ k, k ≤ l.length → (Sub n s' (c_3 b l s k) ↔ Sub n s' s ∧ ∀ j, j < k → (rangeOf b l j).1 ≤ (at' s' (o_7 b l j)).1 ∧ (at' s' (o_7 b l j)).2 ≤ (rangeOf b l j).2)
  | 0, _ => ⟨fun h => ⟨h, fun j hj => absurd hj (Nat.not_lt_zero _)⟩, fun h => h.1⟩
  | k + 1, hk => by
    have ih := start_iff hb hl hn hs (s' := s') k (by omega)
    have hsc := scale_lt hb hl (k := k) (by omega)
    rw [startU_succ]
    have hlen := v_2 b l s k
    constructor
    · intro h
      have h1 : Sub n s' (c_3 b l s k) := fun i hi => by
        have := h i hi
        rw [at_set (by omega)] at this
        split at this
        · rename_i e; subst e; dsimp only [cutR] at this; omega
        · exact this
      have h2 := ih.1 h1
      refine ⟨h2.1, fun j hj => ?_⟩
      rcases Nat.lt_succ_iff_lt_or_eq.1 hj with g | g
      · exact h2.2 j g
      · subst g
        have := h (o_7 b l j) (by omega)
        rw [at_set (by omega), if_pos rfl] at this
        dsimp only [cutR] at this
        omega
    · rintro ⟨h1, h2⟩ i hi
      have h3 := ih.2 ⟨h1, fun j hj => h2 j (by omega)⟩
      rw [at_set (by omega)]
      split
      · rename_i e
        subst e
        have a := h3 _ hi
        have c := h2 k (by omega)
        dsimp only [cutR]
        omega
      · exact h3 i hi
theorem start_sub (hb : q_7 b) (hl : y_9 b l) {n : Nat} (hn : n = b.scales.toNat) (hs : n ≤ s.length) (k : Nat) (hk : k ≤ l.length) : Sub n (c_3 b l s k) s := ((start_iff hb hl hn hs k hk).1 (Sub.refl _ _)).1
theorem wide_free {n : Nat} {s : g_6} (hn : n ≤ 4) (hs : Sub n s e_4) (hout : ∀ j, n ≤ j → at' s j = at' e_4 j) : width s ≤ 400000 := by
  have each : ∀ i, i < 4 → wide (at' s i) ≤ 100000 := fun i hi => by
    have hr : at' e_4 i = rng0 := by
      match i, hi with
      | 0, _ => rfl
      | 1, _ => rfl
      | 2, _ => rfl
      | 3, _ => rfl
    by_cases h : i < n
    · have := hs i h
      rw [hr] at this
      have := wide_le this.1 this.2
      exact this
    · rw [hout i (by omega), hr]; exact Nat.le_refl _
  have := each 0 (by omega); have := each 1 (by omega); have := each 2 (by omega); have := each 3 (by omega)
  unfold width; omega
theorem start_out (hb : q_7 b) (hl : y_9 b l) {j : Nat} (hj : b.scales.toNat ≤ j) : ∀ k, k ≤ l.length → at' (c_3 b l s k) j = at' s j
  | 0, _ => rfl
  | k + 1, hk => by
    have := scale_lt hb hl (k := k) (by omega)
    rw [startU_succ, ← start_out hb hl hj k (by omega)]
    unfold at'
    have hne : o_7 b l k ≠ j := by omega
    simp [List.getD, hne]
theorem q_7.four (hb : q_7 b) : b.scales.toNat ≤ 4 := by have := hb.scales; omega
theorem q_7.natV (hb : q_7 b) : ∀ t ∈ b.tabs, TabV (b.scales.toNat : Nat) t := fun t ht => by
  have := hb.scales
  rw [show ((b.scales.toNat : Nat) : Int) = b.scales by omega]
  exact hb.tabs t ht
theorem q_7.orderV (hb : q_7 b) : ∀ t ∈ f_8 b.scales.toNat b.tabs, TabV (b.scales.toNat : Nat) t ∧ t ∈ b.tabs := fun t ht => ⟨hb.natV t (mem_order ht), mem_order ht⟩
theorem loop_start (hb : q_7 b) (hl : y_9 b l) (hf : Full b.scales.toNat (x_5 b l)) : Loop b.scales.toNat b.tabs (x_5 b l) (x_5 b l) :=
  ⟨v_2 b l e_4 _, hf, Ub.start⟩
theorem start_width (hb : q_7 b) (hl : y_9 b l) : width (x_5 b l) ≤ 400000 :=
  wide_free hb.four (start_sub hb hl rfl (by have := hb.four; exact this) _ (Nat.le_refl _)) fun _ hj => start_out hb hl hj _ (Nat.le_refl _)
end
end Go.Hard

namespace Go.Hard
section
variable {n : Nat} {ts ts' : List TabD} {s0 s0' : g_6} {r r' : Option g_6}
theorem Widest.has {s : g_6} (h : Widest n ts s0 r) (g : Sol n ts s0 s) : ∃ s', r = some s' ∧ s'.length = n ∧ Sub n s s' := by
 cases r with
 | none => exact absurd g (h s)
 | some s' => exact ⟨s', rfl, h.1, h.2.2 s g⟩
end
theorem conv_point {n : Int} {t : TabD} {x : Int} (hV : TabV n t) (hc : o_9 t (x, x) = true) : ∃ r, r_2 t x = some r ∧ k_2 t (x, x) = (r.1 - t.err, r.2 + t.err) := by
 obtain ⟨lo, hi, hm⟩ := conv_made (r := (x, x)) hV hc (Int.le_refl _) (Int.le_refl _)
 refine ⟨(lo, hi), (made_iff hV).2 hm, ?_⟩
 unfold k_2 endsF
 dsimp only
 rw [(made_iff hV).2 hm, Option.getD_some]
 dsimp only
 exact Prod.ext (by dsimp only; omega) (by dsimp only; omega)
end Go.Hard

namespace Go.Hard
def inB (n lo hi : Int) : Bool := decide (lo ≤ n) && decide (n ≤ hi)
theorem g_7 {n lo hi : Int} : inB n lo hi = true ↔ lo ≤ n ∧ n ≤ hi := by unfold inB; simp only [Bool.and_eq_true, decide_eq_true_eq]
def allI (n : Nat) (p : Nat → Bool) : Bool := (List.range n).all p
theorem h_9 {n : Nat} {p : Nat → Bool} : allI n p = true ↔ ∀ i, i < n → p i = true := by
  unfold allI; simp only [List.all_eq_true, List.mem_range]
theorem allI_no {n k : Nat} {p : Nat → Bool} (hk : k < n) (h : p k = false) : allI n p = false := by
  cases hb : allI n p with
  | false => rfl
  | true => have := h_9.1 hb k hk; rw [h] at this; cases this
theorem q_4 {α : Type} {l : List α} {d : α} {p : α → Bool} : allI l.length (fun i => p (l.getD i d)) = true ↔ ∀ x ∈ l, p x = true := by
  rw [h_9]
  constructor
  · intro h x hx
    obtain ⟨i, hi, e⟩ := List.getElem_of_mem hx
    have := h i hi
    simp only [List.getD, List.getElem?_eq_getElem hi, Option.getD_some] at this
    rwa [e] at this
  · intro h i hi; exact h _ (n_4 hi)
def rowB (r : Int × Int) : Bool := inB r.1 1 100000 && inB r.2 1 100000
def w_3 (t : TabD) : Bool := decide (ty t 0 < ty t 1)
def x_7 (rises : Bool) (a b : Int × Int) : Bool := decide (a.1 < b.1) && !decide (b.2 = a.2) && (decide (a.2 < b.2) == rises)
def aa_2 (t : TabD) (i : Nat) : Int := match i with
  | 0 => -1
  | k + 1 => t.brk.getD k 0
def brkB (t : TabD) (i : Nat) : Bool := inB (t.brk.getD i 0) (aa_2 t i + 1) ((t.rows.length : Int) - 2)
def headB (n : Int) (t : TabD) : Bool := inB t.frm 0 (n - 1) && inB t.dst 0 (n - 1) && !decide (t.frm = t.dst) && inB t.err 0 1000 && decide (2 ≤ (t.rows.length : Int)) && allI t.rows.length fun i => rowB (t.rows.getD i (0, 0))
def tabB (n : Int) (t : TabD) : Bool := headB n t && (allI (t.rows.length - 1) fun i => x_7 (w_3 t) (t.rows.getD i (0, 0)) (t.rows.getD (i + 1) (0, 0))) && allI t.brk.length (brkB t)
def u_3 (r : Rng) : Bool := inB r.1 0 100000 && inB r.2 0 100000 && decide (r.1 ≤ r.2)
def blkB (x : Int × Int × Int) : Bool := u_3 (x.1, x.2.1) && inB x.2.2 0 100000
def macB (n : Int) (m : MacD) : Bool := inB m.scale 0 (n - 1) && allI m.blocks.length fun i => blkB (m.blocks.getD i (0, 0, 0))
def f_6 (b : h_5) : Int :=
  if 6 < b.tabs.length ∨ 6 < b.macs.length then 3
  else if allI b.tabs.length (fun i => decide ((b.tabs.getD i tab0).rows.length ≤ 8)) = false then 3
  else if allI b.macs.length (fun i => decide ((b.macs.getD i mac0).blocks.length ≤ 5)) = false then 3
  else if inB b.scales 1 4 = false ∨ allI b.tabs.length (fun i => tabB b.scales (b.tabs.getD i tab0)) = false ∨ allI b.macs.length (fun i => macB b.scales (b.macs.getD i mac0)) = false then 1
  else 0
theorem brk_ok {t : TabD} (h : allI t.brk.length (brkB t) = true) : ∀ i, i < t.brk.length → 0 ≤ t.brk.getD i 0 ∧ t.brk.getD i 0 ≤ (t.rows.length : Int) - 2 ∧ (0 < i → t.brk.getD (i - 1) 0 < t.brk.getD i 0) := by
  intro i
  have key := h_9.1 h
  induction i with
  | zero =>
    intro hi
    have := g_7.1 (key 0 hi)
    simp only [aa_2] at this
    exact ⟨by omega, by omega, fun h => absurd h (Nat.lt_irrefl _)⟩
  | succ i ih =>
    intro hi
    have a := ih (by omega)
    have b := g_7.1 (key (i + 1) hi)
    simp only [aa_2] at b
    exact ⟨by omega, by omega, fun _ => by show t.brk.getD i 0 < _; omega⟩
theorem tab_ok {n : Int} {t : TabD} (h : tabB n t = true) : TabV n t := by
  unfold tabB headB at h
  simp only [Bool.and_eq_true, g_7, Bool.not_eq_true', decide_eq_false_iff_not, decide_eq_true_eq] at h
  obtain ⟨⟨⟨⟨⟨⟨⟨h1, h2⟩, h3⟩, h4⟩, h5⟩, h6⟩, h7⟩, h8⟩ := h
  have h6 := h_9.1 h6
  have h7 := h_9.1 h7
  have hst : ∀ i, i + 1 < t.rows.length → tx t i < tx t (i + 1) ∧ ty t (i + 1) ≠ ty t i ∧ (ty t i < ty t (i + 1) ↔ w_3 t = true) := fun i hi => by
    have := h7 i (by omega)
    unfold x_7 at this
    simp only [Bool.and_eq_true, decide_eq_true_eq, Bool.not_eq_true', decide_eq_false_iff_not, beq_iff_eq] at this
    refine ⟨this.1.1, this.1.2, ?_⟩
    rw [← this.2, decide_eq_true_eq]; rfl
  refine ⟨by omega, by omega, h3, h4, by omega, fun i hi => ?_, ⟨fun i hi => (hst i hi).1, ?_⟩, fun b hb => ?_⟩
  · have := h6 i hi
    unfold rowB at this
    simp only [Bool.and_eq_true, g_7] at this
    exact this
  · cases hr : w_3 t with
    | true => exact .inl fun i hi => (hst i hi).2.2.2 hr
    | false =>
      refine .inr fun i hi => ?_
      have a := hst i hi
      have : ¬ ty t i < ty t (i + 1) := fun h => by have := a.2.2.1 h; rw [hr] at this; cases this
      have := a.2.1
      omega
  · obtain ⟨i, hi, e⟩ := List.getElem_of_mem hb
    have := brk_ok h8 i hi
    simp only [List.getD, List.getElem?_eq_getElem hi, Option.getD_some] at this
    rw [e] at this
    exact ⟨this.1, this.2.1⟩
theorem mac_ok {n : Int} {m : MacD} (h : macB n m = true) : MacV n m := by
  unfold macB at h
  rw [Bool.and_eq_true, g_7, h_9] at h
  refine ⟨by omega, fun i hi => ?_⟩
  have := h.2 i hi
  unfold blkB u_3 at this
  simp only [Bool.and_eq_true, g_7, decide_eq_true_eq] at this
  omega
theorem q_1 {b : h_5} (h : f_6 b = 0) : q_7 b := by
  unfold f_6 at h
  split at h
  · cases h
  · rename_i h1
    split at h
    · cases h
    · rename_i h2
      split at h
      · cases h
      · rename_i h3
        split at h
        · cases h
        · rename_i h4
          simp only [not_or, Bool.not_eq_false] at h2 h3 h4
          have a := (q_4 (l := b.tabs) (d := tab0) (p := fun t => decide (t.rows.length ≤ 8))).1 h2
          have c := (q_4 (l := b.macs) (d := mac0) (p := fun m => decide (m.blocks.length ≤ 5))).1 h3
          have d := (q_4 (l := b.tabs) (d := tab0) (p := tabB b.scales)).1 h4.2.1
          have e := (q_4 (l := b.macs) (d := mac0) (p := macB b.scales)).1 h4.2.2
          have f := g_7.1 h4.1
          refine ⟨f, by omega, by omega, fun t ht => of_decide_eq_true (a t ht), fun m hm => of_decide_eq_true (c m hm), fun t ht => tab_ok (d t ht), fun m hm => mac_ok (e m hm)⟩
def y_4 (b : h_5) (r : Int × Int) : Bool := inB r.1 0 ((b.macs.length : Int) - 1) && inB r.2 0 100000
def z_2 (b : h_5) (l : List (Int × Int)) : Int :=
  if f_6 b ≠ 0 then f_6 b
  else if 8 < l.length then 3
  else if allI l.length (fun i => y_4 b (l.getD i (0, 0))) = false then 2
  else if allI l.length (fun i => !offB (b.macs.getD (l.getD i (0, 0)).1.toNat mac0)) = false then 11
  else 0
theorem read_ok {b : h_5} {l : List (Int × Int)} (h : z_2 b l = 0) : q_7 b ∧ y_9 b l := by
  unfold z_2 at h
  split at h
  · rename_i h1; exact absurd h h1
  · rename_i h1
    split at h
    · cases h
    · rename_i h2
      split at h
      · cases h
      · rename_i h3
        split at h
        · cases h
        · rename_i h4
          have h1 := Decidable.not_not.1 h1
          simp only [Bool.not_eq_false] at h3 h4
          have h3 := h_9.1 h3
          have h4 := h_9.1 h4
          have h5 : ∀ i, i < l.length → (0 ≤ (l.getD i (0, 0)).1 ∧ (l.getD i (0, 0)).1 ≤ (b.macs.length : Int) - 1) ∧ 0 ≤ (l.getD i (0, 0)).2 ∧ (l.getD i (0, 0)).2 ≤ 100000 := fun i hi => by
            have := h3 i hi
            unfold y_4 at this
            rwa [Bool.and_eq_true, g_7, g_7] at this
          refine ⟨q_1 h1, by omega, fun i hi => ?_, fun i hi => (h5 i hi).2, fun i hi => ?_⟩
          · have := h5 i hi; omega
          · have := h4 i hi
            rwa [Bool.not_eq_true'] at this
end Go.Hard

namespace Go.Hard
theorem mem_at {l : List Int} {i : Nat} {x : Int} (h : i < l.length) (e : x = l.getD i 0) : x ∈ l := by rw [e]; exact n_4 h
theorem any_mem {l : List Int} {x : Int} : (List.range l.length).any (fun i => decide (x = l.getD i 0)) = decide (x ∈ l) := by
  rw [Bool.eq_iff_iff, List.any_eq_true, decide_eq_true_eq]
  constructor
  · rintro ⟨i, hi, h⟩; exact mem_at (List.mem_range.1 hi) (of_decide_eq_true h)
  · intro h
    obtain ⟨i, hi, e⟩ := List.getElem_of_mem h
    refine ⟨i, List.mem_range.2 hi, decide_eq_true ?_⟩
    simp only [List.getD, List.getElem?_eq_getElem hi, Option.getD_some]; exact e.symm
theorem find_at {p : Nat → Bool} {n k : Nat} (hk : k < n) (h : ∀ i, i < k → p i = false) (hp : p k = true) : (List.range n).find? p = some k := by
  rw [List.find?_range_eq_some]
  exact ⟨hp, List.mem_range.2 hk, fun j hj => by simp [h j hj]⟩
theorem find_not {p : Nat → Bool} {n : Nat} (h : ∀ i, i < n → p i = false) : (List.range n).find? p = none := by
  rw [List.find?_eq_none]
  intro x hx; simp [h x (List.mem_range.1 hx)]
section
variable {t : TabD} {v : Int} {k : Nat}
theorem made_row (hk : k < t.rows.length) (h : ∀ i, i < k → ¬ tx t i = v) (e : tx t k = v) : r_2 t v = some (ty t k, ty t k) := by
  unfold r_2
  rw [find_at (p := atRow t v) hk (fun i hi => decide_eq_false (h i hi)) (decide_eq_true e)]
theorem made_piece (hn : ∀ i, i < t.rows.length → ¬ tx t i = v) (hk : k + 1 < t.rows.length) (h : ∀ i, i < k → l_6 t v i = false) (e : l_6 t v k = true) : r_2 t v = some (pieceR t v k) := by
  unfold r_2
  rw [find_not (p := atRow t v) fun i hi => decide_eq_false (hn i hi), find_at (show k < t.rows.length - 1 by omega) h e]
theorem made_no (hn : ∀ i, i < t.rows.length → ¬ tx t i = v) (h : ∀ i, i + 1 < t.rows.length → l_6 t v i = false) : r_2 t v = none := by
  unfold r_2
  rw [find_not (p := atRow t v) fun i hi => decide_eq_false (hn i hi), find_not (p := l_6 t v) fun i hi => h i (by omega)]
theorem piece_y (h1 : tx t k < v) (h2 : v < tx t (k + 1)) (h3 : ¬ broken t k) : l_6 t v k = true := by
  unfold l_6; simp only [Bool.and_eq_true, decide_eq_true_eq, Bool.not_eq_true', decide_eq_false_iff_not]; exact ⟨⟨h1, h2⟩, h3⟩
theorem u_2 (h : ¬ tx t k < v ∨ ¬ v < tx t (k + 1) ∨ broken t k) : l_6 t v k = false := by
  cases hb : l_6 t v k with
  | false => rfl
  | true =>
    unfold l_6 at hb
    simp only [Bool.and_eq_true, decide_eq_true_eq, Bool.not_eq_true', decide_eq_false_iff_not] at hb
    rcases h with h | h | h
    · exact absurd hb.1.1 h
    · exact absurd hb.1.2 h
    · exact absurd h hb.2
theorem piece_bds {n : Int} (hV : TabV n t) (hk : k + 1 < t.rows.length) (h1 : tx t k < v) (h2 : v < tx t (k + 1)) : (-100000000000 ≤ pieceN t v k ∧ pieceN t v k ≤ 100000000000) ∧ 0 < pieceD t k ∧ pieceD t k ≤ 100000 := by
  have a := hV.bnd k (by omega)
  have b := hV.bnd (k + 1) hk
  refine ⟨?_, by unfold pieceD; omega⟩
  unfold pieceN
  have c1 : 0 ≤ v - tx t k := by omega
  have c2 : v - tx t k ≤ 100000 := by omega
  have e1 : (v - tx t k) * (ty t (k + 1) - ty t k) ≤ (v - tx t k) * 100000 := Int.mul_le_mul_of_nonneg_left (by omega) c1
  have e2 : (v - tx t k) * (-100000) ≤ (v - tx t k) * (ty t (k + 1) - ty t k) := Int.mul_le_mul_of_nonneg_left (by omega) c1
  omega
end
def brB (t : TabD) (r : Rng) (j : Nat) : Bool := decide (r.2 ≤ tx t j) || decide (tx t (j + 1) ≤ r.1)
theorem all_list {l : List Int} {p : Int → Bool} : (List.range l.length).all (fun i => p (l.getD i 0)) = l.all p := by
  rw [Bool.eq_iff_iff, List.all_eq_true (p := p)]
  exact q_4 (l := l) (d := 0) (p := p)
theorem conv_n1 {t : TabD} {r : Rng} (h : r.1 < tx t 0) : o_9 t r = false := by
  cases hb : o_9 t r with
  | false => rfl
  | true => have := (u_7.1 hb).1; omega
theorem conv_n2 {t : TabD} {r : Rng} (h : tx t (t.rows.length - 1) < r.2) : o_9 t r = false := by
  cases hb : o_9 t r with
  | false => rfl
  | true => have := (u_7.1 hb).2.1; omega
theorem conv_y {t : TabD} {r : Rng} (h1 : ¬ r.1 < tx t 0) (h2 : ¬ tx t (t.rows.length - 1) < r.2) : o_9 t r = (List.range t.brk.length).all (fun i => brB t r (t.brk.getD i 0).toNat) := by
  rw [all_list (p := fun b => brB t r b.toNat)]
  unfold o_9
  rw [decide_eq_true (show tx t 0 ≤ r.1 by omega), decide_eq_true (show r.2 ≤ tx t (t.rows.length - 1) by omega)]
  rfl
def e_5 (t : TabD) (v : Int) : Rng := (r_2 t v).getD (0, 0)
theorem made_bd {n : Int} {t : TabD} {v lo hi : Int} (hV : TabV n t) (h : y_8 t v lo hi) : 1 ≤ lo ∧ lo ≤ hi ∧ hi ≤ 100000 := by
  rcases hV.rows.y with hy | hy
  · cases h with
    | row i hi' hx h1 h2 => have := hV.bnd i hi'; omega
    | piece i hi' ha hb hB h1 h2 =>
      have := piece_bd hV.rows.x hy hi' ha hb
      have a := hV.bnd i (by omega)
      have b := hV.bnd (i + 1) hi'
      omega
  · have hy' : ∀ i, i + 1 < t.rows.length → (fun i => -ty t i) i < (fun i => -ty t i) (i + 1) := fun i hi => by have := hy i hi; show -ty t i < -ty t (i + 1); omega
    have h' := t_4 h
    cases h' with
    | row i hi' hx h1 h2 => have := hV.bnd i hi'; omega
    | piece i hi' ha hb hB h1 h2 =>
      have := piece_bd hV.rows.x hy' hi' ha hb
      have a := hV.bnd i (by omega)
      have b := hV.bnd (i + 1) hi'
      omega
theorem madeV_bd {n : Int} {t : TabD} (hV : TabV n t) (v : Int) : (0 ≤ (e_5 t v).1 ∧ (e_5 t v).1 ≤ 100000) ∧ 0 ≤ (e_5 t v).2 ∧ (e_5 t v).2 ≤ 100000 := by
  unfold e_5
  cases h : r_2 t v with
  | none => exact ⟨⟨by decide, by decide⟩, by decide, by decide⟩
  | some r => have := made_bd hV (made_is h); rw [Option.getD_some]; omega
end Go.Hard

namespace Go.Hard
open Go.RowKit Go.Eng
def slsR (o : Bool) (n : Nat) (v : Nat → Value) (sz : Nat) (k : Nat → Nat) (c : Nat → List Value) : Res where
 S := fun b => ∃ i, i < n ∧ slFoot (v i) (c i) b
 p := fun w => ∀ i, i < n → SlAt w (v i) sz (k i) (c i)
 own := o
 stable := fun w w' h g i hi => (sl (v i) sz (k i) (c i)).stable w w' (h i hi) fun b hb => g b ⟨i, hi, hb⟩
 lt := fun w b h ⟨i, hi, hb⟩ => (sl (v i) sz (k i) (c i)).lt w b (h i hi) hb
def j_6 (ts : List TabD) (i : Nat) : Nat := (ts.getD i tab0).rows.length
def j_5 (ts : List TabD) (i : Nat) : List Value := pairs (ts.getD i tab0).rows
def brkN (ts : List TabD) (i : Nat) : Nat := (ts.getD i tab0).brk.length
def brkC (ts : List TabD) (i : Nat) : List Value := ints (ts.getD i tab0).brk
def blkN (ms : List MacD) (i : Nat) : Nat := (ms.getD i mac0).blocks.length
def blkC (ms : List MacD) (i : Nat) : List Value := trips (ms.getD i mac0).blocks
def tabC (lr lb : Nat → Value) (ts : List TabD) (i : Nat) : List Value := [.int .i64 (ts.getD i tab0).frm, .int .i64 (ts.getD i tab0).dst, lr i, lb i, .int .i64 (ts.getD i tab0).err]
def macC (lk : Nat → Value) (ms : List MacD) (i : Nat) : List Value := [.int .i64 (ms.getD i mac0).scale, lk i]
theorem tabC_len (lr lb : Nat → Value) (ts : List TabD) (i : Nat) : (tabC lr lb ts i).length = 5 := rfl
theorem macC_len (lk : Nat → Value) (ms : List MacD) (i : Nat) : (macC lk ms i).length = 2 := rfl
def m_1 (lr lb : Nat → Value) (ts : List TabD) : List Value := z_1 ts.length (tabC lr lb ts)
def p_0 (lk : Nat → Value) (ms : List MacD) : List Value := z_1 ms.length (macC lk ms)
structure n_1 (w : World) (v : Value) (lr lb : Nat → Value) (ts : List TabD) : Prop where
 tabs : SlAt w v 5 ts.length (m_1 lr lb ts)
 rows : ∀ i, i < ts.length → SlAt w (lr i) 2 (j_6 ts i) (j_5 ts i)
 brks : ∀ i, i < ts.length → SlAt w (lb i) 1 (brkN ts i) (brkC ts i)
structure o_4 (w : World) (v : Value) (lk : Nat → Value) (ms : List MacD) : Prop where
 macs : SlAt w v 2 ms.length (p_0 lk ms)
 blks : ∀ i, i < ms.length → SlAt w (lk i) 3 (blkN ms i) (blkC ms i)
def d_5 (o : Bool) (v : Value) (lr lb : Nat → Value) (ts : List TabD) : Res where
 S := fun b => slFoot v (m_1 lr lb ts) b ∨ (slsR o ts.length lr 2 (j_6 ts) (j_5 ts)).S b ∨ (slsR o ts.length lb 1 (brkN ts) (brkC ts)).S b
 p := fun w => n_1 w v lr lb ts
 own := o
 stable := fun w w' h k => ⟨(sl v 5 ts.length (m_1 lr lb ts)).stable w w' h.tabs fun b hb => k b (.inl hb), (slsR o ts.length lr 2 (j_6 ts) (j_5 ts)).stable w w' h.rows fun b hb => k b (.inr (.inl hb)), (slsR o ts.length lb 1 (brkN ts) (brkC ts)).stable w w' h.brks fun b hb => k b (.inr (.inr hb))⟩
 lt := fun w b h hb => by
  rcases hb with hb | hb | hb
  ·exact (sl v 5 ts.length (m_1 lr lb ts)).lt w b h.tabs hb
  ·exact (slsR o ts.length lr 2 (j_6 ts) (j_5 ts)).lt w b h.rows hb
  ·exact (slsR o ts.length lb 1 (brkN ts) (brkC ts)).lt w b h.brks hb
def f_0 (o : Bool) (v : Value) (lk : Nat → Value) (ms : List MacD) : Res where
 S := fun b => slFoot v (p_0 lk ms) b ∨ (slsR o ms.length lk 3 (blkN ms) (blkC ms)).S b
 p := fun w => o_4 w v lk ms
 own := o
 stable := fun w w' h k => ⟨(sl v 2 ms.length (p_0 lk ms)).stable w w' h.macs fun b hb => k b (.inl hb), (slsR o ms.length lk 3 (blkN ms) (blkC ms)).stable w w' h.blks fun b hb => k b (.inr hb)⟩
 lt := fun w b h hb => by
  rcases hb with hb | hb
  ·exact (sl v 2 ms.length (p_0 lk ms)).lt w b h.macs hb
  ·exact (slsR o ms.length lk 3 (blkN ms) (blkC ms)).lt w b h.blks hb
theorem b_7 {w : World} {o : Bool} {v : Value} {lr lb : Nat → Value} {ts : List TabD} (h : (d_5 o v lr lb ts).p w) : n_1 w v lr lb ts := h
theorem c_9 {w : World} {o : Bool} {v : Value} {lk : Nat → Value} {ms : List MacD} (h : (f_0 o v lk ms).p w) : o_4 w v lk ms := h
section
variable {lr lb lk : Nat → Value} {ts : List TabD} {ms : List MacD} {i : Nat}
theorem tabs_at2 (h : i < ts.length) : (m_1 lr lb ts)[i * 5 + 2]? = some (lr i) := flatI_at (tabC_len lr lb ts) h (k := 2) (by decide)
theorem tabs_at3 (h : i < ts.length) : (m_1 lr lb ts)[i * 5 + 3]? = some (lb i) := flatI_at (tabC_len lr lb ts) h (k := 3) (by decide)
theorem w_0 (h : i < ts.length) : ((m_1 lr lb ts).drop (i * 5)).take 5 = [.int .i64 (ts.getD i tab0).frm, .int .i64 (ts.getD i tab0).dst, lr i, lb i, .int .i64 (ts.getD i tab0).err] := flatI_all (tabC_len lr lb ts) h
theorem macs_at1 (h : i < ms.length) : (p_0 lk ms)[i * 2 + 1]? = some (lk i) := flatI_at (macC_len lk ms) h (k := 1) (by decide)
theorem macs_all (h : i < ms.length) : ((p_0 lk ms).drop (i * 2)).take 2 = [.int .i64 (ms.getD i mac0).scale, lk i] := flatI_all (macC_len lk ms) h
theorem n_1.row {w : World} {v : Value} (h : n_1 w v lr lb ts) (hi : i < ts.length) : SlAt w (lr i) 2 (ts.getD i tab0).rows.length (pairs (ts.getD i tab0).rows) := h.rows i hi
theorem n_1.brk {w : World} {v : Value} (h : n_1 w v lr lb ts) (hi : i < ts.length) : SlAt w (lb i) 1 (ts.getD i tab0).brk.length (ints (ts.getD i tab0).brk) := h.brks i hi
theorem o_4.blk {w : World} {v : Value} (h : o_4 w v lk ms) (hi : i < ms.length) : SlAt w (lk i) 3 (ms.getD i mac0).blocks.length (trips (ms.getD i mac0).blocks) := h.blks i hi
def putV (n : Nat) (v : Nat → Value) (u : Value) : Nat → Value := fun i => if i = n then u else v i
theorem r_6 (n : Nat) (v : Nat → Value) (u : Value) : putV n v u n = u := if_pos rfl
theorem v_8 {n i : Nat} (v : Nat → Value) (u : Value) (h : i < n) : putV n v u i = v i := if_neg (by omega)
theorem getD_old {α : Type} {l : List α} {x d : α} {i : Nat} (h : i < l.length) : (l ++ [x]).getD i d = l.getD i d := by simp [List.getD, List.getElem?_append_left h]
theorem getD_new {α : Type} {l : List α} {x d : α} : (l ++ [x]).getD l.length d = x := by simp [List.getD]
theorem tabs_snoc (t : TabD) (A B : Value) : m_1 lr lb ts ++ [.int .i64 t.frm, .int .i64 t.dst, A, B, .int .i64 t.err] = m_1 (putV ts.length lr A) (putV ts.length lb B) (ts ++ [t]) := by
 unfold m_1
 rw [List.length_append, List.length_singleton, p_2]
 congr 1
 ·exact flatI_congr fun i hi => by unfold tabC; rw [getD_old hi, v_8 _ _ hi, v_8 _ _ hi]
 unfold tabC; rw [getD_new, r_6, r_6]
theorem macs_snoc (m : MacD) (u : Value) : p_0 lk ms ++ [.int .i64 m.scale, u] = p_0 (putV ms.length lk u) (ms ++ [m]) := by
 unfold p_0
 rw [List.length_append, List.length_singleton, p_2]
 congr 1
 ·exact flatI_congr fun i hi => by unfold macC; rw [getD_old hi, v_8 _ _ hi]
 unfold macC; rw [getD_new, r_6]
end
theorem k_1 {k : IntKind} {a b : Int} (h : a = b) : Value.int k a = Value.int k b := by rw [h]
theorem callsI {P : Program} {f : FuncId} {args : Array Value} {w : World} {b' : Int} (k : Calls P f args w (Ret fun v w' => v = .int .i64 b' ∧ Ext NoB w w')) (b : Int) (h : b' = b) : Calls P f args w (Ret fun v w' => v = .int .i64 b ∧ Ext NoB w w') := by subst h; exact k
def minU (l : List Int) : Nat → Int
 | 0 => l.getD 0 0
 | k + 1 => min (minU l k) (l.getD (k + 1) 0)
def maxU (l : List Int) : Nat → Int
 | 0 => l.getD 0 0
 | k + 1 => max (maxU l k) (l.getD (k + 1) 0)
def z_9 (n d : Int) : Int := n / d
def upF (n d : Int) : Int := -(-n / d)
theorem down_y {n d : Int} (hd : 0 < d) (h : n.tmod d < 0) : n.tdiv d - 1 = z_9 n d := by
 unfold z_9
 have F := Int.mul_tdiv_add_tmod n d
 have G := Int.mul_ediv_add_emod n d
 have C := Int.emod_nonneg n (show d ≠ 0 by omega)
 have D := Int.emod_lt_of_pos n hd
 have E := Int.lt_tmod_of_pos n hd
 have k : d * (n.tdiv d - 1 - n / d) = n % d - n.tmod d - d := by rw [Int.mul_sub, Int.mul_sub, Int.mul_one]; omega
 have A : d * (n.tdiv d - 1 - n / d) < d * 1 := by rw [k]; omega
 have B : d * (-1) < d * (n.tdiv d - 1 - n / d) := by rw [k]; omega
 have := Int.lt_of_mul_lt_mul_left A (by omega)
 have := Int.lt_of_mul_lt_mul_left B (by omega)
 omega
theorem down_n {n d : Int} (hd : 0 < d) (h : ¬ n.tmod d < 0) : n.tdiv d = z_9 n d := by
 unfold z_9
 have F := Int.mul_tdiv_add_tmod n d
 have G := Int.mul_ediv_add_emod n d
 have C := Int.emod_nonneg n (show d ≠ 0 by omega)
 have D := Int.emod_lt_of_pos n hd
 have E := Int.tmod_lt_of_pos n hd
 have k : d * (n.tdiv d - n / d) = n % d - n.tmod d := by rw [Int.mul_sub]; omega
 have A : d * (n.tdiv d - n / d) < d * 1 := by rw [k]; omega
 have B : d * (-1) < d * (n.tdiv d - n / d) := by rw [k]; omega
 have := Int.lt_of_mul_lt_mul_left A (by omega)
 have := Int.lt_of_mul_lt_mul_left B (by omega)
 omega
theorem trips_sub0 {xs : List (Int × Int × Int)} {i : Nat} (h : i < xs.length) : ((trips xs).drop (i * 3)).take 2 = [.int .i64 (xs.getD i (0, 0, 0)).1, .int .i64 (xs.getD i (0, 0, 0)).2.1] := by
 have := congrArg (·.take 2) (trips_all h)
 simpa [List.take_take] using this
end Go.Hard

namespace Go.Proofs.Ytohgladndklciaa
open Go.RowKit Go.Shelf Go.Eng Go.Hard
end Go.Proofs.Ytohgladndklciaa

namespace Go.Proofs.Ytohgladndklciaa
open Go.RowKit Go.Shelf Go.Eng Go.Hard
theorem en_47 : ∀ args w, (callFunc 47 args).run Try.prog w = .ok (.enter 47 args) w := enters_of Try.func47 (by kernel_rfl) rfl
theorem aa_0 : ∀ args w, (callFunc 22 args).run Try.prog w = .ok (.enter 22 args) w := enters_of Try.func22 (by kernel_rfl) rfl
theorem m_3 : fldK Try.prog 30 0 = some 0 := by kernel_rfl
theorem ty_3 : tyK Try.prog 3 = some (false, 1) := by kernel_rfl
theorem en_70 : ∀ args w, (callFunc 70 args).run Try.prog w = .ok (.enter 70 args) w := enters_of Try.func70 (by kernel_rfl) rfl
theorem m_4 : fldK Try.prog 30 1 = some 1 := by kernel_rfl
theorem fd_27_0 : fldK Try.prog 27 0 = some 0 := by kernel_rfl
theorem en_53 : ∀ args w, (callFunc 53 args).run Try.prog w = .ok (.enter 53 args) w := enters_of Try.func53 (by kernel_rfl) rfl
theorem fd_27_1 : fldK Try.prog 27 1 = some 1 := by kernel_rfl
theorem i_4 : fldK Try.prog 107 0 = some 0 := by kernel_rfl
theorem l_5 : fldK Try.prog 107 1 = some 1 := by kernel_rfl
theorem w_9 : (Try.prog.info? 30).bind (·.zero) = some (Value.agg #[(iv 0), (iv 0)]) := by kernel_rfl
theorem l_3 (x0_0 : Int) (x1_0 : Int) (w : World) : (Instr.build 30 #[(0, (.int .i64 x0_0)), (1, (.int .i64 x1_0))]).run Try.prog w = .ok (.agg #[(.int .i64 x0_0), (.int .i64 x1_0)]) w := by kernel_rfl
theorem f_5 : tyK Try.prog 30 = some (true, 2) := by kernel_rfl
theorem fd_157_0 : fldK Try.prog 157 0 = some 0 := by kernel_rfl
theorem fd_157_1 : fldK Try.prog 157 1 = some 1 := by kernel_rfl
theorem n_0 : Try.prog.underlying 44 = some (.slice 3) := by kernel_rfl
theorem en_104 : ∀ args w, (callFunc 104 args).run Try.prog w = .ok (.enter 104 args) w := enters_of Try.func104 (by kernel_rfl) rfl
theorem en_105 : ∀ args w, (callFunc 105 args).run Try.prog w = .ok (.enter 105 args) w := enters_of Try.func105 (by kernel_rfl) rfl
theorem ze_3 : (Try.prog.info? 3).bind (·.zero) = some (iv 0) := by kernel_rfl
theorem mixed : Try.prog.follows .mixedOrders = true := by kernel_rfl
theorem t_2 (x0_0 : Int) (x1_0 : Int) : Instr.fill (fun i => some (i * 1, 1)) ((Array.range (2 * 1)).map ((iv 0).cells[· % (iv 0).cells.size]!)) [(0, (.int .i64 x0_0)), (1, (.int .i64 x1_0))] = some (([(.int .i64 x0_0), (.int .i64 x1_0)] : List Value).toArray) := by kernel_rfl
theorem en_80 : ∀ args w, (callFunc 80 args).run Try.prog w = .ok (.enter 80 args) w := enters_of Try.func80 (by kernel_rfl) rfl
theorem en_79 : ∀ args w, (callFunc 79 args).run Try.prog w = .ok (.enter 79 args) w := enters_of Try.func79 (by kernel_rfl) rfl
theorem ty_27 : tyK Try.prog 27 = some (true, 2) := by kernel_rfl
theorem bd_157_0i_1i (x0_0 : Int) (x1_0 : Int) (w : World) : (Instr.build 157 #[(0, (.int .i64 x0_0)), (1, (.int .i64 x1_0))]).run Try.prog w = .ok (.agg #[(.int .i64 x0_0), (.int .i64 x1_0)]) w := by kernel_rfl
theorem en_102 : ∀ args w, (callFunc 102 args).run Try.prog w = .ok (.enter 102 args) w := enters_of Try.func102 (by kernel_rfl) rfl
theorem n_7 (n lo hi : Int) (w : World) :
  Calls Try.prog 47 #[(iv n), (iv lo), (iv hi)] w (Ret fun v w' => v = .bool (inB n lo hi) ∧ w' = w) := by
 refine b_0 Try.func47 rfl fun R H => ?_
 replace H : Fr 15 [] [(0, (iv n)), (1, (iv lo)), (2, (iv hi))] R := H
 have i : Sep NoB w w [] := Sep.start _ _
 refine m2 (s1 H (a_0 rfl (evc _ _)) fun b J => ?_); clear H R
 refine n4 (s1 J (a_1 rfl J.e) fun c O => ?_); clear J b
 refine s1 O (a_1 rfl O.e) fun d I => ?_; clear O c
 refine s1 I (s_5 rfl I.e I.e) fun f P => ?_; clear I d
 refine s1 P (a_1 rfl P.e) fun a A => ?_; clear P f
 by_cases Q : lo ≤ n
 ·skip
  rw [decide_eq_true Q] at A
  refine s5 A (a_1 rfl A.e) fun S D => ?_; clear A a
  refine s5 D (a_1 rfl D.e) fun T B => ?_; clear D S
  refine s5 B (s_5 rfl B.e B.e) fun U C => ?_; clear B T
  refine s1 C (b_3 rfl C.e C.e) fun V E => ?_; clear C U
  refine s1 E (a_0 rfl E.e) fun g K => ?_; clear E V
  refine n1 (c_2 (a_8 K (.inl rfl) (a_2 K rfl (.tmp rfl)) ?_))
  exact ⟨congrArg Value.bool (by unfold inB; simp [*]), rfl⟩
 skip
 rw [decide_eq_false Q] at A
 refine s3 A fun W L => ?_; clear A a
 refine s3 L fun X M => ?_; clear L W
 refine s3 M fun Y F => ?_; clear M X
 refine s1 F (d_1 rfl F.e (evc _ _)) fun Z G => ?_; clear F Y
 refine s1 G (a_0 rfl G.e) fun h N => ?_; clear G Z
 refine n1 (c_2 (a_8 N (.inl rfl) (a_2 N rfl (.tmp rfl)) ?_))
 exact ⟨congrArg Value.bool (by unfold inB; simp [*]), rfl⟩
theorem z_7 (n lo hi : Int) (w : World) :
  Calls Try.prog 22 #[(iv n), (iv lo), (iv hi)] w (Ret fun v w' => v = .bool (inB n lo hi) ∧ w' = w) := by
 refine b_0 Try.func22 rfl fun R H => ?_
 replace H : Fr 15 [] [(0, (iv n)), (1, (iv lo)), (2, (iv hi))] R := H
 have i : Sep NoB w w [] := Sep.start _ _
 refine m2 (s1 H (a_0 rfl (evc _ _)) fun b J => ?_); clear H R
 refine n4 (s1 J (a_1 rfl J.e) fun c O => ?_); clear J b
 refine s1 O (a_1 rfl O.e) fun d I => ?_; clear O c
 refine s1 I (x_4 rfl I.e I.e) fun f P => ?_; clear I d
 refine s1 P (a_1 rfl P.e) fun a A => ?_; clear P f
 by_cases Q : lo ≤ n
 ·skip
  rw [decide_eq_true Q] at A
  refine s5 A (a_1 rfl A.e) fun S D => ?_; clear A a
  refine s5 D (a_1 rfl D.e) fun T B => ?_; clear D S
  refine s5 B (s_5 rfl B.e B.e) fun U C => ?_; clear B T
  refine s1 C (b_3 rfl C.e C.e) fun V E => ?_; clear C U
  refine s1 E (a_0 rfl E.e) fun g K => ?_; clear E V
  refine n1 (c_2 (a_8 K (.inl rfl) (a_2 K rfl (.tmp rfl)) ?_))
  exact ⟨congrArg Value.bool (by unfold inB; simp [*]), rfl⟩
 skip
 rw [decide_eq_false Q] at A
 refine s3 A fun W L => ?_; clear A a
 refine s3 L fun X M => ?_; clear L W
 refine s3 M fun Y F => ?_; clear M X
 refine s1 F (d_1 rfl F.e (evc _ _)) fun Z G => ?_; clear F Y
 refine s1 G (a_0 rfl G.e) fun h N => ?_; clear G Z
 refine n1 (c_2 (a_8 N (.inl rfl) (a_2 N rfl (.tmp rfl)) ?_))
 exact ⟨congrArg Value.bool (by unfold inB; simp [*]), rfl⟩
theorem value_ok (n : Int) (w : World) :
  Calls Try.prog 70 #[(iv n)] w (Ret fun v w' => v = .bool (inB n 0 100000) ∧ Ext NoB w w') := by
 refine b_0 Try.func70 rfl fun F A => ?_
 replace A : Fr 5 [] [(0, (iv n))] F := A
 have G : Sep NoB w w [] := Sep.start _ _
 refine m2 (s1 A (a_0 rfl (evc _ _)) fun H B => ?_); clear A F
 refine n4 (s1 B (a_1 rfl B.e) fun I C => ?_); clear B H
 refine s2 C (b_2 rfl en_47 (ev3 C.e (evc _ _) (evc _ _)) (n_7 _ _ _ _)) ?_
 rintro J _ W_ ⟨rfl, hW_⟩ D; have hW2_ := hW_.symm; subst hW2_; clear hW_ C I
 refine s1 D (a_0 rfl D.e) fun K E => ?_; clear D J
 exact n1 (c_2 (a_8 E (.inl rfl) (a_2 E rfl (.tmp rfl)) (⟨rfl, G.ext⟩)))
theorem rvalue_ok (n : Int) (w : World) :
  Calls Try.prog 53 #[(iv n)] w (Ret fun v w' => v = .bool (inB n 0 100000) ∧ Ext NoB w w') := by
 refine b_0 Try.func53 rfl fun F A => ?_
 replace A : Fr 5 [] [(0, (iv n))] F := A
 have G : Sep NoB w w [] := Sep.start _ _
 refine m2 (s1 A (a_0 rfl (evc _ _)) fun H B => ?_); clear A F
 refine n4 (s1 B (a_1 rfl B.e) fun I C => ?_); clear B H
 refine s2 C (b_2 rfl aa_0 (ev3 C.e (evc _ _) (evc _ _)) (z_7 _ _ _ _)) ?_
 rintro J _ W_ ⟨rfl, hW_⟩ D; have hW2_ := hW_.symm; subst hW2_; clear hW_ C I
 refine s1 D (a_0 rfl D.e) fun K E => ?_; clear D J
 exact n1 (c_2 (a_8 E (.inl rfl) (a_2 E rfl (.tmp rfl)) (⟨rfl, G.ext⟩)))
theorem values_ok (t u : Int) (w : World) :
  Calls Try.prog 48 #[(Value.agg #[(iv t), (iv u)])] w (Ret fun v w' => v = .bool (u_3 (t, u)) ∧ Ext NoB w w') := by
 refine b_0 Try.func48 rfl fun a0 H => ?_
 replace H : Fr 18 [] [(0, (Value.agg #[(iv t), (iv u)]))] a0 := H
 have AA : Sep NoB w w [] := Sep.start _ _
 refine m2 (s2 H (f_2 AA rfl H.e (cs := [(iv t), (iv u)]) rfl) ?_)
 rintro a1 _ w3 ⟨b4, rfl, s⟩ z; clear H AA a0
 refine s1 z (a_0 rfl (evc _ _)) fun a6 i => ?_; clear z a1
 refine n4 (s1 i (a_3 rfl m_3 i.e) fun a8 p => ?_); clear i a6
 refine s1 p (a_4 rfl ty_3 p.e (s.bk 0 rfl) rfl) fun AC I => ?_; clear p a8
 refine s2 I (b_2 rfl en_70 (ev1 I.e) (value_ok _ _)) ?_
 rintro AD _ Al ⟨rfl, q⟩ J; have F := s.step q; clear q I s AC
 refine s1 J (a_1 rfl J.e) fun x A => ?_; clear J AD
 rcases Bool.eq_false_or_eq_true ((inB t 0 100000)) with X | X
 ·skip
  rw [X] at A
  refine s5 A (a_3 rfl m_4 A.e) fun AE K => ?_; clear A x
  refine s5 K (a_4 rfl ty_3 K.e (F.bk 0 rfl) rfl) fun AF L => ?_; clear K AE
  refine s6 L (b_2 rfl en_70 (ev1 L.e) (value_ok _ _)) ?_
  rintro AG _ Am ⟨rfl, r⟩ C; have G := F.step r; clear r L F AF
  refine s1 C (b_3 rfl C.e C.e) fun AH M => ?_; clear C AG
  refine s1 M (a_1 rfl M.e) fun y B => ?_; clear M AH
  rcases Bool.eq_false_or_eq_true ((inB u 0 100000)) with Y | Y
  ·skip
   rw [Y] at B
   refine s5 B (a_3 rfl m_3 B.e) fun AI N => ?_; clear B y
   refine s5 N (a_4 rfl ty_3 N.e (G.bk 0 rfl) rfl) fun AJ O => ?_; clear N AI
   refine s5 O (a_3 rfl m_4 O.e) fun AK P => ?_; clear O AJ
   refine s5 P (a_4 rfl ty_3 P.e (G.bk 0 rfl) rfl) fun AL D => ?_; clear P AK
   refine s5 D (s_5 rfl D.e D.e) fun AM E => ?_; clear D AL
   refine s1 E (b_3 rfl E.e E.e) fun AN Q => ?_; clear E AM
   refine s1 Q (a_0 rfl Q.e) fun Ai Z => ?_; clear Q AN
   refine n1 (c_2 (a_8 Z (.inl rfl) (a_2 Z rfl (.tmp rfl)) ?_))
   exact ⟨congrArg Value.bool (by unfold u_3; simp [*]), G.ext⟩
  skip
  rw [Y] at B
  refine s3 B fun AO a => ?_; clear B y
  refine s3 a fun AP b => ?_; clear a AO
  refine s3 b fun AQ c => ?_; clear b AP
  refine s3 c fun AR d => ?_; clear c AQ
  refine s3 d fun AS R => ?_; clear d AR
  refine s1 R (d_1 rfl R.e (evc _ _)) fun AT S => ?_; clear R AS
  refine s1 S (a_0 rfl S.e) fun Aj f => ?_; clear S AT
  refine n1 (c_2 (a_8 f (.inl rfl) (a_2 f rfl (.tmp rfl)) ?_))
  exact ⟨congrArg Value.bool (by unfold u_3; simp [*]), G.ext⟩
 skip
 rw [X] at A
 refine s3 A fun AU g => ?_; clear A x
 refine s3 g fun AV h => ?_; clear g AU
 refine s3 h fun AW T => ?_; clear h AV
 refine s1 T (d_1 rfl T.e (evc _ _)) fun AX U => ?_; clear T AW
 refine s1 U (a_1 rfl U.e) fun AY j => ?_; clear U AX
 refine s3 j fun AZ k => ?_; clear j AY
 refine s3 k fun Aa l => ?_; clear k AZ
 refine s3 l fun Ab m => ?_; clear l Aa
 refine s3 m fun Ac n => ?_; clear m Ab
 refine s3 n fun Ad V => ?_; clear n Ac
 refine s1 V (d_1 rfl V.e (evc _ _)) fun Ae W => ?_; clear V Ad
 refine s1 W (a_0 rfl W.e) fun Ak o => ?_; clear W Ae
 refine n1 (c_2 (a_8 o (.inl rfl) (a_2 o rfl (.tmp rfl)) ?_))
 exact ⟨congrArg Value.bool (by unfold u_3; simp [*]), F.ext⟩
theorem span_ok (t u : Int) (w : World) :
  Calls Try.prog 52 #[(Value.agg #[(iv t), (iv u)])] w (Ret fun v w' => v = .bool (u_3 (t, u)) ∧ Ext NoB w w') := by
 refine b_0 Try.func52 rfl fun a0 H => ?_
 replace H : Fr 18 [] [(0, (Value.agg #[(iv t), (iv u)]))] a0 := H
 have AA : Sep NoB w w [] := Sep.start _ _
 refine m2 (s2 H (f_2 AA rfl H.e (cs := [(iv t), (iv u)]) rfl) ?_)
 rintro a1 _ w3 ⟨b4, rfl, s⟩ z; clear H AA a0
 refine s1 z (a_0 rfl (evc _ _)) fun a6 i => ?_; clear z a1
 refine n4 (s1 i (a_3 rfl fd_27_0 i.e) fun a8 p => ?_); clear i a6
 refine s1 p (a_4 rfl ty_3 p.e (s.bk 0 rfl) rfl) fun AC I => ?_; clear p a8
 refine s2 I (b_2 rfl en_53 (ev1 I.e) (rvalue_ok _ _)) ?_
 rintro AD _ Al ⟨rfl, q⟩ J; have F := s.step q; clear q I s AC
 refine s1 J (a_1 rfl J.e) fun x A => ?_; clear J AD
 rcases Bool.eq_false_or_eq_true ((inB t 0 100000)) with X | X
 ·skip
  rw [X] at A
  refine s5 A (a_3 rfl fd_27_1 A.e) fun AE K => ?_; clear A x
  refine s5 K (a_4 rfl ty_3 K.e (F.bk 0 rfl) rfl) fun AF L => ?_; clear K AE
  refine s6 L (b_2 rfl en_53 (ev1 L.e) (rvalue_ok _ _)) ?_
  rintro AG _ Am ⟨rfl, r⟩ C; have G := F.step r; clear r L F AF
  refine s1 C (b_3 rfl C.e C.e) fun AH M => ?_; clear C AG
  refine s1 M (a_1 rfl M.e) fun y B => ?_; clear M AH
  rcases Bool.eq_false_or_eq_true ((inB u 0 100000)) with Y | Y
  ·skip
   rw [Y] at B
   refine s5 B (a_3 rfl fd_27_0 B.e) fun AI N => ?_; clear B y
   refine s5 N (a_4 rfl ty_3 N.e (G.bk 0 rfl) rfl) fun AJ O => ?_; clear N AI
   refine s5 O (a_3 rfl fd_27_1 O.e) fun AK P => ?_; clear O AJ
   refine s5 P (a_4 rfl ty_3 P.e (G.bk 0 rfl) rfl) fun AL D => ?_; clear P AK
   refine s5 D (s_5 rfl D.e D.e) fun AM E => ?_; clear D AL
   refine s1 E (b_3 rfl E.e E.e) fun AN Q => ?_; clear E AM
   refine s1 Q (a_0 rfl Q.e) fun Ai Z => ?_; clear Q AN
   refine n1 (c_2 (a_8 Z (.inl rfl) (a_2 Z rfl (.tmp rfl)) ?_))
   exact ⟨congrArg Value.bool (by unfold u_3; simp [*]), G.ext⟩
  skip
  rw [Y] at B
  refine s3 B fun AO a => ?_; clear B y
  refine s3 a fun AP b => ?_; clear a AO
  refine s3 b fun AQ c => ?_; clear b AP
  refine s3 c fun AR d => ?_; clear c AQ
  refine s3 d fun AS R => ?_; clear d AR
  refine s1 R (d_1 rfl R.e (evc _ _)) fun AT S => ?_; clear R AS
  refine s1 S (a_0 rfl S.e) fun Aj f => ?_; clear S AT
  refine n1 (c_2 (a_8 f (.inl rfl) (a_2 f rfl (.tmp rfl)) ?_))
  exact ⟨congrArg Value.bool (by unfold u_3; simp [*]), G.ext⟩
 skip
 rw [X] at A
 refine s3 A fun AU g => ?_; clear A x
 refine s3 g fun AV h => ?_; clear g AU
 refine s3 h fun AW T => ?_; clear h AV
 refine s1 T (d_1 rfl T.e (evc _ _)) fun AX U => ?_; clear T AW
 refine s1 U (a_1 rfl U.e) fun AY j => ?_; clear U AX
 refine s3 j fun AZ k => ?_; clear j AY
 refine s3 k fun Aa l => ?_; clear k AZ
 refine s3 l fun Ab m => ?_; clear l Aa
 refine s3 m fun Ac n => ?_; clear m Ab
 refine s3 n fun Ad V => ?_; clear n Ac
 refine s1 V (d_1 rfl V.e (evc _ _)) fun Ae W => ?_; clear V Ad
 refine s1 W (a_0 rfl W.e) fun Ak o => ?_; clear W Ae
 refine n1 (c_2 (a_8 o (.inl rfl) (a_2 o rfl (.tmp rfl)) ?_))
 exact ⟨congrArg Value.bool (by unfold u_3; simp [*]), F.ext⟩
theorem empty_ok (J K : Int) (w : World) :
  Calls Try.prog 68 #[(Value.agg #[(iv J), (iv K)])] w (Ret fun v w' => v = .bool (decide (K < J)) ∧ Ext NoB w w') := by
 refine b_0 Try.func68 rfl fun N B => ?_
 replace B : Fr 8 [] [(0, (Value.agg #[(iv J), (iv K)]))] N := B
 have M : Sep NoB w w [] := Sep.start _ _
 refine m2 (s2 B (f_2 M rfl B.e (cs := [(iv J), (iv K)]) rfl) ?_)
 rintro S _ X ⟨W, rfl, I⟩ L; clear B M N
 refine s1 L (a_0 rfl (evc _ _)) fun T G => ?_; clear L S
 refine n4 (s1 G (a_3 rfl m_3 G.e) fun U H => ?_); clear G T
 refine s1 H (a_4 rfl ty_3 H.e (I.bk 0 rfl) rfl) fun O C => ?_; clear H U
 refine s1 C (a_3 rfl m_4 C.e) fun P D => ?_; clear C O
 refine s1 D (a_4 rfl ty_3 D.e (I.bk 0 rfl) rfl) fun Q A => ?_; clear D P
 refine s1 A (l_1 rfl A.e A.e) fun R E => ?_; clear A Q
 refine s1 E (a_0 rfl E.e) fun V F => ?_; clear E R
 exact n1 (c_2 (a_8 F (.inl rfl) (a_2 F rfl (.tmp rfl)) (⟨rfl, I.ext⟩)))
theorem row_ok (S T : Int) (w : World) :
  Calls Try.prog 95 #[(Value.agg #[(iv S), (iv T)])] w (Ret fun v w' => v = .bool (rowB (S, T)) ∧ Ext NoB w w') := by
 refine b_0 Try.func95 rfl fun X C => ?_
 replace C : Fr 11 [] [(0, (Value.agg #[(iv S), (iv T)]))] X := C
 have W : Sep NoB w w [] := Sep.start _ _
 refine m2 (s2 C (f_2 W rfl C.e (cs := [(iv S), (iv T)]) rfl) ?_)
 rintro j _ p ⟨o, rfl, L⟩ V; clear C W X
 refine s1 V (a_0 rfl (evc _ _)) fun k Q => ?_; clear V j
 refine n4 (s1 Q (a_3 rfl i_4 Q.e) fun l R => ?_); clear Q k
 refine s1 R (a_4 rfl ty_3 R.e (L.bk 0 rfl) rfl) fun Y D => ?_; clear R l
 refine s2 D (b_2 rfl en_47 (ev3 D.e (evc _ _) (evc _ _)) (n_7 _ _ _ _)) ?_
 rintro Z _ W_ ⟨rfl, hW_⟩ E; have hW2_ := hW_.symm; subst hW2_; clear hW_ D Y
 refine s1 E (a_1 rfl E.e) fun U A => ?_; clear E Z
 rcases Bool.eq_false_or_eq_true ((inB S 1 100000)) with K | K
 ·skip
  rw [K] at A
  refine s5 A (a_3 rfl l_5 A.e) fun a F => ?_; clear A U
  refine s5 F (a_4 rfl ty_3 F.e (L.bk 0 rfl) rfl) fun b G => ?_; clear F a
  refine s6 G (b_2 rfl en_47 (ev3 G.e (evc _ _) (evc _ _)) (n_7 _ _ _ _)) ?_
  rintro c _ W_ ⟨rfl, hW_⟩ B; have hW2_ := hW_.symm; subst hW2_; clear hW_ G b
  refine s1 B (b_3 rfl B.e B.e) fun d H => ?_; clear B c
  refine s1 H (a_0 rfl H.e) fun m M => ?_; clear H d
  refine n1 (c_2 (a_8 M (.inl rfl) (a_2 M rfl (.tmp rfl)) ?_))
  exact ⟨congrArg Value.bool (by unfold rowB; simp [*]), L.ext⟩
 skip
 rw [K] at A
 refine s3 A fun f N => ?_; clear A U
 refine s3 N fun g O => ?_; clear N f
 refine s3 O fun h I => ?_; clear O g
 refine s1 I (d_1 rfl I.e (evc _ _)) fun i J => ?_; clear I h
 refine s1 J (a_0 rfl J.e) fun n P => ?_; clear J i
 refine n1 (c_2 (a_8 P (.inl rfl) (a_2 P rfl (.tmp rfl)) ?_))
 exact ⟨congrArg Value.bool (by unfold rowB; simp [*]), L.ext⟩
theorem to_ok (E F : Int) (w : World) :
  Calls Try.prog 20 #[(Value.agg #[(iv E), (iv F)])] w (Ret fun v w' => v = .agg #[.int .i64 E, .int .i64 F] ∧ Ext NoB w w') := by
 refine b_0 Try.func20 rfl fun Q D => ?_
 replace D : Fr 8 [] [(0, (Value.agg #[(iv E), (iv F)]))] Q := D
 have O : Sep NoB w w [] := Sep.start _ _
 refine m2 (s2 D (f_2 O rfl D.e (cs := [(iv E), (iv F)]) rfl) ?_)
 rintro W _ b ⟨Y, rfl, P⟩ N; clear D O Q
 refine s2 N (d_8 P rfl w_9 (cs := [(iv 0), (iv 0)]) rfl) ?_
 rintro X _ c ⟨Z, rfl, C⟩ K; clear N P W
 refine n4 (s1 K (a_3 rfl fd_27_0 K.e) fun R G => ?_); clear K X
 refine s1 G (a_4 rfl ty_3 G.e (C.bk 1 rfl) rfl) fun S H => ?_; clear G R
 refine s1 H (a_3 rfl fd_27_1 H.e) fun T I => ?_; clear H S
 refine s1 I (a_4 rfl ty_3 I.e (C.bk 1 rfl) rfl) fun U A => ?_; clear I T
 refine s1 A (e_1 rfl (pv2 A.e A.e) (l_3 _ _)) fun a B => ?_; clear A U
 refine s7 B (b_6 C rfl f_5 B.e B.e (i := 0) rfl (vs := [(iv E), (iv F)]) rfl rfl rfl (Nat.le_of_ble_eq_true rfl)) ?_
 intro _ V L J; clear B
 have M : Sep NoB w V [(blk Z 30 [(iv E), (iv F)]), (blk Y 27 [(iv E), (iv F)])] := L; clear L C
 refine n1 (c_2 (a_8 J (.inl rfl) (a_2 J rfl (.cellA rfl f_5 (M.bk 0 rfl) (l := [(iv E), (iv F)]) rfl rfl)) ?_))
 exact ⟨rfl, M.ext⟩
theorem j_1 (a b : Int) (w : World) :
  Calls Try.prog 31 #[(iv a), (iv b)] w (Ret fun v w' => v = .agg #[.int .i64 a, .int .i64 b] ∧ Ext NoB w w') := by
 refine b_0 Try.func31 rfl fun K B => ?_
 replace B : Fr 8 [] [(0, (iv a)), (1, (iv b))] K := B
 have I : Sep NoB w w [] := Sep.start _ _
 refine m2 (s2 B (d_8 I rfl w_9 (cs := [(iv 0), (iv 0)]) rfl) ?_)
 rintro M _ R ⟨P, rfl, J⟩ E; clear B I K
 refine n4 (s1 E (a_1 rfl E.e) fun N F => ?_); clear E M
 refine s1 F (a_1 rfl F.e) fun O C => ?_; clear F N
 refine s1 C (e_1 rfl (pv2 C.e C.e) (l_3 _ _)) fun Q A => ?_; clear C O
 refine s7 A (b_6 J rfl f_5 A.e A.e (i := 0) rfl (vs := [(iv a), (iv b)]) rfl rfl rfl (Nat.le_of_ble_eq_true rfl)) ?_
 intro _ L G D; clear A
 have H : Sep NoB w L [(blk P 30 [(iv a), (iv b)])] := G; clear G J
 refine n1 (c_2 (a_8 D (.inl rfl) (a_2 D rfl (.cellA rfl f_5 (H.bk 0 rfl) (l := [(iv a), (iv b)]) rfl rfl)) ?_))
 exact ⟨rfl, H.ext⟩
theorem tdiv_bd {n d : Int} (hn : -100000000000 ≤ n ∧ n ≤ 100000000000) (hd : 0 < d ∧ d ≤ 100000) : -100000000000 ≤ n.tdiv d ∧ n.tdiv d ≤ 100000000000 := by
 have a := Int.natAbs_tdiv_le_natAbs n d
 omega
theorem down_ok (n d : Int) (w : World) (hn : -100000000000 ≤ n ∧ n ≤ 100000000000) (hd : 0 < d ∧ d ≤ 100000) :
  Calls Try.prog 102 #[(Value.agg #[(iv n), (iv d)])] w (Ret fun v w' => v = .int .i64 (z_9 n d) ∧ Ext NoB w w') := by
 refine b_0 Try.func102 rfl fun f E => ?_
 replace E : Fr 18 [] [(0, (Value.agg #[(iv n), (iv d)]))] f := E
 have hq := tdiv_bd hn hd
 have c : Sep NoB w w [] := Sep.start _ _
 refine m2 (s2 E (f_2 c rfl E.e (cs := [(iv n), (iv d)]) rfl) ?_)
 rintro y _ w3 ⟨b4, rfl, B⟩ b; clear E c f
 refine s1 b (a_0 rfl (evc _ _)) fun z X => ?_; clear b y
 refine n4 (s1 X (a_3 rfl fd_157_0 X.e) fun a8 Y => ?_); clear X z
 refine s1 Y (a_4 rfl ty_3 Y.e (B.bk 0 rfl) rfl) fun g F => ?_; clear Y a8
 refine s1 F (a_3 rfl fd_157_1 F.e) fun h G => ?_; clear F g
 refine s1 G (a_4 rfl ty_3 G.e (B.bk 0 rfl) rfl) fun i C => ?_; clear G h
 refine s1 C (op_quo rfl C.e C.e (by omega) (by omega) (by omega)) fun j H => ?_; clear C i
 refine s1 H (a_0 rfl H.e) fun k U => ?_; clear H j
 refine n2 (b_9 ?_)
 have I := U.as [(3, (iv ((n).tdiv d))), (1, (bptr b4 0))] rfl; clear U
 refine a_5 (s1 I (a_3 rfl fd_157_0 I.e) fun l J => ?_); clear I k
 refine s1 J (a_4 rfl ty_3 J.e (B.bk 0 rfl) rfl) fun m K => ?_; clear J l
 refine s1 K (a_3 rfl fd_157_1 K.e) fun o L => ?_; clear K m
 refine s1 L (a_4 rfl ty_3 L.e (B.bk 0 rfl) rfl) fun p D => ?_; clear L o
 refine s1 D (op_rem rfl D.e D.e (by omega)) fun q M => ?_; clear D p
 refine s1 M (g_2 rfl M.e (evc _ _)) fun a A => ?_; clear M q
 refine n1 ?_
 by_cases Z : ((n).tmod d) < 0
 ·skip
  rw [decide_eq_true Z] at A
  refine c_0 A rfl ?_
  have N := A.as [(3, (iv ((n).tdiv d)))] rfl; clear A
  refine a_5 (s1 N (a_1 rfl N.e) fun r O => ?_); clear N a
  refine s1 O (i_5 rfl O.e (evc _ _) (by omega) (by omega)) fun s P => ?_; clear O r
  refine s1 P (a_0 rfl P.e) fun t Q => ?_; clear P s
  refine n4 (s1 Q (a_1 rfl Q.e) fun u R => ?_); clear Q t
  refine s1 R (a_0 rfl R.e) fun AC V => ?_; clear R u
  exact n1 (c_2 (a_8 V (.inl rfl) (a_2 V rfl (.tmp rfl)) (⟨k_1 (by first | exact down_y hd.1 (by assumption) | exact down_n hd.1 (by assumption)), B.ext⟩)))
 skip
 rw [decide_eq_false Z] at A
 refine b_8 A rfl (d_4 (b_1 (b_9 ?_)))
 have S := A.as [(3, (iv ((n).tdiv d)))] rfl; clear A
 refine a_5 (s1 S (a_1 rfl S.e) fun x T => ?_); clear S a
 refine s1 T (a_0 rfl T.e) fun AD W => ?_; clear T x
 exact n1 (c_2 (a_8 W (.inl rfl) (a_2 W rfl (.tmp rfl)) (⟨k_1 (by first | exact down_y hd.1 (by assumption) | exact down_n hd.1 (by assumption)), B.ext⟩)))
theorem min_ok (xs : List Int) (v : Value) (w : World) (hv : SlAt w v 1 xs.length (ints xs)) (h1 : 1 ≤ xs.length) (hlen : xs.length ≤ 1000) :
  Calls Try.prog 104 #[v] w (Ret fun v w' => v = .int .i64 (minU xs (xs.length - 1)) ∧ Ext NoB w w') := by
 refine b_0 Try.func104 rfl fun n X => ?_
 replace X : Fr 25 [] [(0, v)] n := X
 have H : Sep NoB w w [(sl v 1 xs.length (ints xs))] := f_1 ⟨rfl, hv, trivial⟩
 refine m2 (s1 X (a_0 rfl (evc _ _)) fun a1 a => ?_); clear X n
 refine n2 (m2 (s1 a (a_1 rfl a.e) fun a3 d => ?_)); clear a a1
 refine s1 d (e_0 rfl n_0 d.e (H.ok 0 _ rfl)) fun a5 g => ?_; clear d a3
 refine s1 g (g_2 rfl g.e (evc _ _)) fun a7 F => ?_; clear g a5
 have AJ : ¬ ((xs.length : Int) < 1) := (by omega)
 rw [decide_eq_false AJ] at F
 refine n1 (b_8 F rfl (d_4 (b_1 (m2 (s1 F (a_1 rfl F.e) fun o I => ?_))))); clear F a7
 refine s1 I (b_4 rfl n_0 ty_3 I.e (i := 0) (show _ = Value.int .i64 ((0 : Nat) : Int) from (evc _ _)) (H.ok 0 _ rfl) (by decide) (by omega)) fun p J => ?_; clear I o
 refine s1 J (d_0 rfl ty_3 J.e (H.ok 0 _ rfl) (ints_at (by omega))) fun q K => ?_; clear J p
 refine s1 K (a_0 rfl K.e) fun r Y => ?_; clear K q
 refine n2 (b_9 ?_)
 have Z := Y.as [(3, (iv (xs.getD 0 0))), (0, v)] rfl; clear Y
 refine a_5 (s1 Z (a_0 rfl (evc _ _)) fun s b => ?_); clear Z r
 refine n1 (c_6 ?_)
 have c := b.as [(4, (iv 1)), (3, (iv (xs.getD 0 0))), (0, v)] rfl; clear b
 refine h_7 (G := Nat) (fun (k : Nat) a_ w_ => Fr 25 [] [(4, (iv ((k + 1 : Nat) : Int))), (3, (iv (minU xs k))), (0, v)] a_ ∧ Sep NoB w w_ [(sl v 1 xs.length (ints xs))] ∧ (k + 1 ≤ xs.length)) (fun k => xs.length - k) 0 ⟨c.as _ rfl, H, h1⟩ ?_
 clear c H s
 rintro k t AR ⟨L, B, hk⟩
 refine b_9 (m2 (s1 L (a_1 rfl L.e) fun u M => ?_)); clear L t
 refine s1 M (a_1 rfl M.e) fun x N => ?_; clear M u
 refine s1 N (e_0 rfl n_0 N.e (B.ok 0 _ rfl)) fun y C => ?_; clear N x
 refine s1 C (g_2 rfl C.e C.e) fun l A => ?_; clear C y
 refine n1 ?_
 by_cases j : ((k + 1 : Nat) : Int) < (xs.length : Int)
 ·skip
  rw [decide_eq_true j] at A
  refine c_0 A rfl (d_4 (b_1 (b_9 (c_6 (a_5 (s1 A (a_1 rfl A.e) fun z O => ?_)))))); clear A l
  refine s1 O (a_1 rfl O.e) fun AA P => ?_; clear O z
  refine s1 P (a_1 rfl P.e) fun AB D => ?_; clear P AA
  refine s1 D (b_4 rfl n_0 ty_3 D.e (i := (k + 1 : Nat)) D.e (B.ok 0 _ rfl) (by decide) (by omega)) fun AC Q => ?_; clear D AB
  refine s1 Q (d_0 rfl ty_3 Q.e (B.ok 0 _ rfl) (ints_at (by omega))) fun AD E => ?_; clear Q AC
  refine s1 E (op_min rfl E.e E.e) fun AE R => ?_; clear E AD
  refine s1 R (a_0 rfl R.e) fun AF f => ?_; clear R AE
  refine e_8 (h_0 (b_1 ?_))
  have S := f.as [(3, (iv (min (minU xs k) (xs.getD (k + 1 : Nat) 0)))), (4, (iv ((k + 1 : Nat) : Int))), (0, v)] rfl; clear f
  refine a_5 (s1 S (a_1 rfl S.e) fun AG T => ?_); clear S AF
  refine s1 T (g_1 rfl T.e (evc _ _) (by omega) (by omega)) fun AH U => ?_; clear T AG
  refine s1 U (a_0 rfl U.e) fun AP m => ?_; clear U AH
  refine e_8 ?_
  exact b_1 ⟨k + 1, ⟨m.as _ rfl, B, by omega⟩, by omega⟩
 skip
 rw [decide_eq_false j] at A
 refine b_8 A rfl (h_6 (b_5 (b_5 (f_9 (b_1 (b_9 ?_))))))
 have V := A.as [(3, (iv (minU xs k)))] rfl; clear A
 refine a_5 (s1 V (a_1 rfl V.e) fun AI W => ?_); clear V l
 refine s1 W (a_0 rfl W.e) fun AQ h => ?_; clear W AI
 refine n1 (c_2 (a_8 h (.inl rfl) (a_2 h rfl (.tmp rfl)) ?_))
 exact ⟨k_1 (by rw [show xs.length - 1 = k by omega]), B.ext⟩
theorem max_ok (xs : List Int) (v : Value) (w : World) (hv : SlAt w v 1 xs.length (ints xs)) (h1 : 1 ≤ xs.length) (hlen : xs.length ≤ 1000) :
  Calls Try.prog 105 #[v] w (Ret fun v w' => v = .int .i64 (maxU xs (xs.length - 1)) ∧ Ext NoB w w') := by
 refine b_0 Try.func105 rfl fun n X => ?_
 replace X : Fr 25 [] [(0, v)] n := X
 have H : Sep NoB w w [(sl v 1 xs.length (ints xs))] := f_1 ⟨rfl, hv, trivial⟩
 refine m2 (s1 X (a_0 rfl (evc _ _)) fun a1 a => ?_); clear X n
 refine n2 (m2 (s1 a (a_1 rfl a.e) fun a3 d => ?_)); clear a a1
 refine s1 d (e_0 rfl n_0 d.e (H.ok 0 _ rfl)) fun a5 g => ?_; clear d a3
 refine s1 g (g_2 rfl g.e (evc _ _)) fun a7 F => ?_; clear g a5
 have AJ : ¬ ((xs.length : Int) < 1) := (by omega)
 rw [decide_eq_false AJ] at F
 refine n1 (b_8 F rfl (d_4 (b_1 (m2 (s1 F (a_1 rfl F.e) fun o I => ?_))))); clear F a7
 refine s1 I (b_4 rfl n_0 ty_3 I.e (i := 0) (show _ = Value.int .i64 ((0 : Nat) : Int) from (evc _ _)) (H.ok 0 _ rfl) (by decide) (by omega)) fun p J => ?_; clear I o
 refine s1 J (d_0 rfl ty_3 J.e (H.ok 0 _ rfl) (ints_at (by omega))) fun q K => ?_; clear J p
 refine s1 K (a_0 rfl K.e) fun r Y => ?_; clear K q
 refine n2 (b_9 ?_)
 have Z := Y.as [(3, (iv (xs.getD 0 0))), (0, v)] rfl; clear Y
 refine a_5 (s1 Z (a_0 rfl (evc _ _)) fun s b => ?_); clear Z r
 refine n1 (c_6 ?_)
 have c := b.as [(4, (iv 1)), (3, (iv (xs.getD 0 0))), (0, v)] rfl; clear b
 refine h_7 (G := Nat) (fun (k : Nat) a_ w_ => Fr 25 [] [(4, (iv ((k + 1 : Nat) : Int))), (3, (iv (maxU xs k))), (0, v)] a_ ∧ Sep NoB w w_ [(sl v 1 xs.length (ints xs))] ∧ (k + 1 ≤ xs.length)) (fun k => xs.length - k) 0 ⟨c.as _ rfl, H, h1⟩ ?_
 clear c H s
 rintro k t AR ⟨L, B, hk⟩
 refine b_9 (m2 (s1 L (a_1 rfl L.e) fun u M => ?_)); clear L t
 refine s1 M (a_1 rfl M.e) fun x N => ?_; clear M u
 refine s1 N (e_0 rfl n_0 N.e (B.ok 0 _ rfl)) fun y C => ?_; clear N x
 refine s1 C (g_2 rfl C.e C.e) fun l A => ?_; clear C y
 refine n1 ?_
 by_cases j : ((k + 1 : Nat) : Int) < (xs.length : Int)
 ·skip
  rw [decide_eq_true j] at A
  refine c_0 A rfl (d_4 (b_1 (b_9 (c_6 (a_5 (s1 A (a_1 rfl A.e) fun z O => ?_)))))); clear A l
  refine s1 O (a_1 rfl O.e) fun AA P => ?_; clear O z
  refine s1 P (a_1 rfl P.e) fun AB D => ?_; clear P AA
  refine s1 D (b_4 rfl n_0 ty_3 D.e (i := (k + 1 : Nat)) D.e (B.ok 0 _ rfl) (by decide) (by omega)) fun AC Q => ?_; clear D AB
  refine s1 Q (d_0 rfl ty_3 Q.e (B.ok 0 _ rfl) (ints_at (by omega))) fun AD E => ?_; clear Q AC
  refine s1 E (op_max rfl E.e E.e) fun AE R => ?_; clear E AD
  refine s1 R (a_0 rfl R.e) fun AF f => ?_; clear R AE
  refine e_8 (h_0 (b_1 ?_))
  have S := f.as [(3, (iv (max (maxU xs k) (xs.getD (k + 1 : Nat) 0)))), (4, (iv ((k + 1 : Nat) : Int))), (0, v)] rfl; clear f
  refine a_5 (s1 S (a_1 rfl S.e) fun AG T => ?_); clear S AF
  refine s1 T (g_1 rfl T.e (evc _ _) (by omega) (by omega)) fun AH U => ?_; clear T AG
  refine s1 U (a_0 rfl U.e) fun AP m => ?_; clear U AH
  refine e_8 ?_
  exact b_1 ⟨k + 1, ⟨m.as _ rfl, B, by omega⟩, by omega⟩
 skip
 rw [decide_eq_false j] at A
 refine b_8 A rfl (h_6 (b_5 (b_5 (f_9 (b_1 (b_9 ?_))))))
 have V := A.as [(3, (iv (maxU xs k)))] rfl; clear A
 refine a_5 (s1 V (a_1 rfl V.e) fun AI W => ?_); clear V l
 refine s1 W (a_0 rfl W.e) fun AQ h => ?_; clear W AI
 refine n1 (c_2 (a_8 h (.inl rfl) (a_2 h rfl (.tmp rfl)) ?_))
 exact ⟨k_1 (by rw [show xs.length - 1 = k by omega]), B.ext⟩
theorem least_ok (xs : List Int) (v : Value) (w : World) (hv : SlAt w v 1 xs.length (ints xs)) (N : 1 ≤ xs.length) (hlen : xs.length ≤ 1000) :
  Calls Try.prog 79 #[v] w (Ret fun v w' => v = .int .i64 (minU xs (xs.length - 1)) ∧ Ext NoB w w') := by
 refine b_0 Try.func79 rfl fun H A => ?_
 replace A : Fr 5 [] [(0, v)] H := A
 have F : Sep NoB w w [(sl v 1 xs.length (ints xs))] := f_1 ⟨rfl, hv, trivial⟩
 refine m2 (s1 A (a_0 rfl (evc _ _)) fun J C => ?_); clear A H
 refine n4 (s1 C (a_1 rfl C.e) fun K D => ?_); clear C J
 refine s2 D (b_2 rfl en_104 (ev1 D.e) (min_ok xs _ _ (F.ok 0 _ rfl) (by omega) (by omega))) ?_
 rintro L _ O ⟨rfl, G⟩ E; have I := F.step G; clear G D F K
 refine s1 E (a_0 rfl E.e) fun M B => ?_; clear E L
 exact n1 (c_2 (a_8 B (.inl rfl) (a_2 B rfl (.tmp rfl)) (⟨rfl, I.ext⟩)))
theorem greatest_ok (xs : List Int) (v : Value) (w : World) (hv : SlAt w v 1 xs.length (ints xs)) (N : 1 ≤ xs.length) (hlen : xs.length ≤ 1000) :
  Calls Try.prog 80 #[v] w (Ret fun v w' => v = .int .i64 (maxU xs (xs.length - 1)) ∧ Ext NoB w w') := by
 refine b_0 Try.func80 rfl fun H A => ?_
 replace A : Fr 5 [] [(0, v)] H := A
 have F : Sep NoB w w [(sl v 1 xs.length (ints xs))] := f_1 ⟨rfl, hv, trivial⟩
 refine m2 (s1 A (a_0 rfl (evc _ _)) fun J C => ?_); clear A H
 refine n4 (s1 C (a_1 rfl C.e) fun K D => ?_); clear C J
 refine s2 D (b_2 rfl en_105 (ev1 D.e) (max_ok xs _ _ (F.ok 0 _ rfl) (by omega) (by omega))) ?_
 rintro L _ O ⟨rfl, G⟩ E; have I := F.step G; clear G D F K
 refine s1 E (a_0 rfl E.e) fun M B => ?_; clear E L
 exact n1 (c_2 (a_8 B (.inl rfl) (a_2 B rfl (.tmp rfl)) (⟨rfl, I.ext⟩)))
theorem cut_ok (D F C E : Int) (w : World) :
  Calls Try.prog 87 #[(Value.agg #[(iv D), (iv F)]), (Value.agg #[(iv C), (iv E)])] w (Ret fun v w' => v = .agg #[.int .i64 (cutR (D, F) (C, E)).1, .int .i64 (cutR (D, F) (C, E)).2] ∧ Ext NoB w w') := by
 refine b_0 Try.func87 rfl fun r I => ?_
 replace I : Fr 18 [] [(0, (Value.agg #[(iv D), (iv F)])), (1, (Value.agg #[(iv C), (iv E)]))] r := I
 have m : Sep NoB w w [] := Sep.start _ _
 refine m2 (s2 I (f_2 m rfl I.e (cs := [(iv D), (iv F)]) rfl) ?_)
 rintro a1 _ w3 ⟨P, rfl, n⟩ T; clear I m r
 refine s2 T (f_2 n rfl T.e (cs := [(iv C), (iv E)]) rfl) ?_
 rintro a6 _ w8 ⟨Q, rfl, Y⟩ k; clear T n a1
 refine s2 k (d_8 Y rfl w_9 (cs := [(iv 0), (iv 0)]) rfl) ?_
 rintro AD _ AH ⟨M, rfl, Z⟩ R; clear k Y a6
 refine n2 ?_
 have S := R.as [(4, (bptr M 0)), (3, (bptr Q 0)), (2, (bptr P 0))] rfl; clear R
 refine x_2 mixed S Z 11 [[], [0], [], [2], [1, 3], [4], [], [6], [], [8], [7, 9]] [(yw (bptr P 0)), (yw (iv D)), (yw (bptr Q 0)), (yw (iv C)), (fun (A : Nat → Value) (v_ : Value) (rs_ : List Res) => True ∧ rs_ = [(row v_ 3 1 2 [(iv D), (iv C)])]), (yw (iv (max D C))), (yw (bptr P 1)), (yw (iv F)), (yw (bptr Q 1)), (yw (iv E)), (fun (A : Nat → Value) (v_ : Value) (rs_ : List Res) => True ∧ rs_ = [(row v_ 3 1 2 [(iv F), (iv E)])])] (by decide +kernel) (by decide +kernel) rfl rfl ⟨dw, dw, dw, dw, (fun _ _ _ _ _ h_ => h_), dw, dw, dw, dw, dw, (fun _ _ _ _ _ h_ => h_), trivial⟩ ?_ ?_
 ·skip
  refine ⟨fun a w A hA hS hd => gv1 (a_3 rfl m_3 hA.e), ?_⟩
  refine ⟨fun a w A hA hS hd => gv1 (a_4 rfl ty_3 (gu hd 0) (hS.bk 2 rfl) rfl), ?_⟩
  refine ⟨fun a w A hA hS hd => gv1 (a_3 rfl m_3 hA.e), ?_⟩
  refine ⟨fun a w A hA hS hd => gv1 (a_4 rfl ty_3 (gu hd 2) (hS.bk 1 rfl) rfl), ?_⟩
  refine ⟨fun a w A hA hS hd => d_6 rfl (vblt rfl (pv2 (gu hd 1) (gu hd 3)) n_0 ty_3 ze_3 (by decide) (cs := [(iv D), (iv C)]) (t_2 _ _) rfl (by decide) (fun _ => And.intro trivial rfl)), ?_⟩
  refine ⟨fun a w A hA hS hd => ?_, ?_⟩
  ·skip
   obtain ⟨e4, AG, x, t⟩ := hd 4 (by decide)
   obtain ⟨AF, u⟩ := x; subst u
   have hp4_0 := t _ (List.mem_of_getElem? (i := 0) rfl)
   exact gx1 (b_2 rfl en_80 (ev1 (c_1 (j_0 e4 rfl))) (callsI (greatest_ok [D, C] _ _ (SlAt.g_9 hp4_0) (by simp) (by simp)) (max D C) rfl))
  refine ⟨fun a w A hA hS hd => gv1 (a_3 rfl m_4 hA.e), ?_⟩
  refine ⟨fun a w A hA hS hd => gv1 (a_4 rfl ty_3 (gu hd 6) (hS.bk 2 rfl) rfl), ?_⟩
  refine ⟨fun a w A hA hS hd => gv1 (a_3 rfl m_4 hA.e), ?_⟩
  refine ⟨fun a w A hA hS hd => gv1 (a_4 rfl ty_3 (gu hd 8) (hS.bk 1 rfl) rfl), ?_⟩
  refine ⟨fun a w A hA hS hd => d_6 rfl (vblt rfl (pv2 (gu hd 7) (gu hd 9)) n_0 ty_3 ze_3 (by decide) (cs := [(iv F), (iv E)]) (t_2 _ _) rfl (by decide) (fun _ => And.intro trivial rfl)), ?_⟩
  trivial
 intro j y A rsf23 U B K; clear S Z
 obtain ⟨o, q⟩ := B 4 (by decide)
 obtain ⟨p, f⟩ := q
 obtain ⟨O, h⟩ := B 10 (by decide)
 obtain ⟨g, N⟩ := h
 have L : Sep NoB w y [(row (A 4) 3 1 2 [(iv D), (iv C)]), (row (A 10) 3 1 2 [(iv F), (iv E)]), (blk M 30 [(iv 0), (iv 0)]), (blk Q 30 [(iv C), (iv E)]), (blk P 30 [(iv D), (iv F)])] := by rw [show catR rsf23 0 11 = ([(row (A 4) 3 1 2 [(iv D), (iv C)]), (row (A 10) 3 1 2 [(iv F), (iv E)])] : List Res) by (try simp only [catR, gr (B 0 (by decide)), gr (B 1 (by decide)), gr (B 2 (by decide)), gr (B 3 (by decide)), f, gr (B 5 (by decide)), gr (B 6 (by decide)), gr (B 7 (by decide)), gr (B 8 (by decide)), gr (B 9 (by decide)), N]); (try rfl)] at K; exact K
 have V := U.add (gs (B 5 (by decide))); clear U
 have J : Fr 18 [] [(15, (A 10)), (10, (iv (max D C))), (4, (bptr M 0)), (3, (bptr Q 0)), (2, (bptr P 0))] j := V.add (j_0 O rfl); clear V
 clear B K o O
 clear f
 clear p
 clear N
 clear g
 refine s2 J (b_2 rfl en_79 (ev1 J.e) (callsI (least_ok [F, E] _ _ (SlAt.g_9 (L.i_1 1 rfl)) (by simp) (by simp)) (min F E) rfl)) ?_
 rintro s _ AI ⟨rfl, X⟩ G; have b := L.step X; clear X J L j
 refine s1 G (e_1 rfl (pv2 G.e G.e) (l_3 _ _)) fun AE H => ?_; clear G s
 refine s7 H (b_6 b rfl f_5 H.e H.e (i := 2) rfl (vs := [(iv (max D C)), (iv (min F E))]) rfl rfl rfl (Nat.le_of_ble_eq_true rfl)) ?_
 intro _ z c W; clear H
 have d : Sep NoB w z [(row (A 4) 3 1 2 [(iv D), (iv C)]), (row (A 10) 3 1 2 [(iv F), (iv E)]), (blk M 30 [(iv (max D C)), (iv (min F E))]), (blk Q 30 [(iv C), (iv E)]), (blk P 30 [(iv D), (iv F)])] := c; clear c b
 refine n1 (c_2 (a_8 W (.inl rfl) (a_2 W rfl (.cellA rfl f_5 (d.bk 2 rfl) (l := [(iv (max D C)), (iv (min F E))]) rfl rfl)) ?_))
 exact ⟨rfl, d.ext⟩
theorem downF_bd {n d : Int} (hn : -100000000000 ≤ n ∧ n ≤ 100000000000) (hd : 0 < d ∧ d ≤ 100000) : -100000000001 ≤ z_9 n d ∧ z_9 n d ≤ 100000000000 := by
 have a := tdiv_bd hn hd
 by_cases h : n.tmod d < 0
 ·rw [← down_y hd.1 h]; omega
 rw [← down_n hd.1 h]; omega
theorem up_ok (n d : Int) (w : World) (hn : -100000000000 ≤ n ∧ n ≤ 100000000000) (hd : 0 < d ∧ d ≤ 100000) :
  Calls Try.prog 103 #[(Value.agg #[(iv n), (iv d)])] w (Ret fun v w' => v = .int .i64 (upF n d) ∧ Ext NoB w w') := by
 refine b_0 Try.func103 rfl fun Q B => ?_
 replace B : Fr 11 [] [(0, (Value.agg #[(iv n), (iv d)]))] Q := B
 have hb_ := downF_bd (n := -n) (d := d) (by omega) hd
 have O : Sep NoB w w [] := Sep.start _ _
 refine m2 (s2 B (f_2 O rfl B.e (cs := [(iv n), (iv d)]) rfl) ?_)
 rintro Y _ g ⟨f, rfl, I⟩ N; clear B O Q
 refine s1 N (a_0 rfl (evc _ _)) fun Z K => ?_; clear N Y
 refine n4 (s1 K (a_3 rfl fd_157_0 K.e) fun a L => ?_); clear K Z
 refine s1 L (a_4 rfl ty_3 L.e (I.bk 0 rfl) rfl) fun R C => ?_; clear L a
 refine s1 C (op_neg rfl C.e (by omega) (by omega)) fun S D => ?_; clear C R
 refine s1 D (a_3 rfl fd_157_1 D.e) fun T E => ?_; clear D S
 refine s1 E (a_4 rfl ty_3 E.e (I.bk 0 rfl) rfl) fun U A => ?_; clear E T
 refine s1 A (e_1 rfl (pv2 A.e A.e) (bd_157_0i_1i _ _)) fun V F => ?_; clear A U
 refine s2 F (b_2 rfl en_102 (ev1 F.e) (down_ok _ _ _ (by omega) (by omega))) ?_
 rintro W _ c ⟨rfl, M⟩ G; have P := I.step M; clear M F I V
 refine s1 G (op_neg rfl G.e (by omega) (by omega)) fun X H => ?_; clear G W
 refine s1 H (a_0 rfl H.e) fun b J => ?_; clear H X
 exact n1 (c_2 (a_8 J (.inl rfl) (a_2 J rfl (.tmp rfl)) (⟨rfl, P.ext⟩)))
end Go.Proofs.Ytohgladndklciaa

namespace Go.Proofs.Ytohgladndklciaa
open Go.RowKit Go.Shelf Go.Eng Go.Hard
theorem fd_103_1 : fldK Try.prog 103 1 = some 1 := by kernel_rfl
theorem ty_101 : tyK Try.prog 101 = some (false, 1) := by kernel_rfl
theorem y_6 : Try.prog.underlying 101 = some (.slice 100) := by kernel_rfl
theorem y_5 : tyK Try.prog 100 = some (true, 3) := by kernel_rfl
theorem ze_100 : (Try.prog.info? 100).bind (·.zero) = some (Value.agg #[(iv 0), (iv 0), (iv 0)]) := by kernel_rfl
theorem fd_100_1 : fldK Try.prog 100 1 = some 2 := by kernel_rfl
theorem fd_100_0 : fldK Try.prog 100 0 = some 0 := by kernel_rfl
theorem en_87 : ∀ args w, (callFunc 87 args).run Try.prog w = .ok (.enter 87 args) w := enters_of Try.func87 (by kernel_rfl) rfl
theorem x_3 : fldK Try.prog 61 1 = some 1 := by kernel_rfl
theorem ty_59 : tyK Try.prog 59 = some (false, 1) := by kernel_rfl
theorem un_59 : Try.prog.underlying 59 = some (.slice 63) := by kernel_rfl
theorem ty_63 : tyK Try.prog 63 = some (true, 3) := by kernel_rfl
theorem fd_63_1 : fldK Try.prog 63 1 = some 2 := by kernel_rfl
theorem fd_63_0 : fldK Try.prog 63 0 = some 0 := by kernel_rfl
theorem ty_61 : tyK Try.prog 61 = some (true, 2) := by kernel_rfl
theorem bias_ok (n : Int) (m : MacD) (vk : Value) (w : World) (hk : SlAt w vk 3 m.blocks.length (trips m.blocks)) (hm : MacV n m) (hbl : m.blocks.length ≤ 1000000) :
  Calls Try.prog 67 #[(Value.agg #[(iv m.scale), vk])] w (Ret fun v w' => v = .agg #[.int .i64 (d_9 m).1, .int .i64 (d_9 m).2] ∧ Ext NoB w w') := by
 refine b_0 Try.func67 rfl fun a0 Q => ?_
 replace Q : Fr 31 [] [(0, (Value.agg #[(iv m.scale), vk]))] a0 := Q
 have AO : Sep NoB w w [(sl vk 3 m.blocks.length (trips m.blocks))] := f_1 ⟨rfl, hk, trivial⟩
 refine m2 (s2 Q (f_2 AO rfl Q.e (cs := [(iv m.scale), vk]) rfl) ?_)
 rintro a1 _ w3 ⟨o, rfl, AP⟩ AM; clear Q AO a0
 refine s2 AM (d_8 AP rfl w_9 (cs := [(iv 0), (iv 0)]) rfl) ?_
 rintro a6 _ w8 ⟨P, rfl, z⟩ AN; clear AM AP a1
 refine n4 (s1 AN (e_1 rfl (pv2 (evc _ _) (evc _ _)) (l_3 _ _)) fun AT p => ?_); clear AN a6
 refine s2 p (d_8 z rfl w_9 (cs := [(iv 0), (iv 0)]) rfl) ?_
 rintro AU _ A2 ⟨D, rfl, AA⟩ E; clear p z AT
 refine s7 E (b_6 AA rfl f_5 E.e E.e (i := 0) rfl (vs := [(iv (-100000)), (iv 100000)]) rfl rfl rfl (Nat.le_of_ble_eq_true rfl)) ?_
 intro _ At AB R; clear E
 have O : Sep NoB w At [(blk D 30 [(iv (-100000)), (iv 100000)]), (blk P 30 [(iv 0), (iv 0)]), (blk o 103 [(iv m.scale), vk]), (sl vk 3 m.blocks.length (trips m.blocks))] := AB; clear AB AA
 refine n2 (m2 (s1 R (a_3 rfl fd_103_1 R.e) fun AV S => ?_)); clear R AU
 refine s1 S (a_4 rfl ty_101 S.e (O.bk 2 rfl) rfl) fun AW T => ?_; clear S AV
 refine s1 T (e_0 rfl y_6 T.e (O.sk 3 rfl)) fun AX q => ?_; clear T AW
 refine s1 q (a_1 rfl (evc _ _)) fun AY r => ?_; clear q AX
 refine n1 (c_6 ?_)
 have s := r.as [(10, (iv 0)), (9, (iv (m.blocks.length : Int))), (8, vk), (3, (bptr D 0)), (2, (bptr P 0))] rfl; clear r
 refine h_7 (G := Nat) (fun (k : Nat) a_ w_ => Fr 31 [] [(10, (iv (k : Int))), (9, (iv (m.blocks.length : Int))), (8, vk), (3, (bptr D 0)), (2, (bptr P 0))] a_ ∧ Sep NoB w w_ [(blk D 30 [(iv ((n_3 m.blocks k).1)), (iv ((n_3 m.blocks k).2))]), (blk P 30 [(iv 0), (iv 0)]), (blk o 103 [(iv m.scale), vk]), (sl vk 3 m.blocks.length (trips m.blocks))] ∧ (k ≤ m.blocks.length)) (fun k => m.blocks.length - k) 0 ⟨s.as _ rfl, O, by omega⟩ ?_
 clear s O AY
 rintro k AZ A3 ⟨F, B, A1⟩
 refine m2 (s1 F (g_2 rfl F.e F.e) fun AK A => ?_); clear F AZ
 refine n2 ?_
 by_cases AJ : (k : Int) < (m.blocks.length : Int)
 ·skip
  rw [decide_eq_true AJ] at A
  have hbk := hm.blocks k (by omega)
  refine c_0 A rfl (d_4 (b_1 (b_9 (c_6 (m2 (s1 A (b_4 rfl y_6 y_5 A.e (i := k) A.e (B.sk 3 rfl) (by decide) (by omega)) fun Aa U => ?_)))))); clear A AK
  refine s1 U (e_6 rfl y_5 U.e (B.sk 3 rfl) (trips_all (by omega)) rfl (by decide)) fun Ab t => ?_; clear U Aa
  refine s2 t (d_8 B rfl ze_100 (cs := [(iv 0), (iv 0), (iv 0)]) rfl) ?_
  rintro Ac _ A4 ⟨AL, rfl, AC⟩ H; clear t B Ab
  refine s7 H (b_6 AC rfl y_5 H.e H.e (i := 0) rfl (vs := [(iv ((m.blocks.getD k (0, 0, 0)).1)), (iv ((m.blocks.getD k (0, 0, 0)).2.1)), (iv ((m.blocks.getD k (0, 0, 0)).2.2))]) rfl rfl rfl (Nat.le_of_ble_eq_true rfl)) ?_
  intro _ Au AD V; clear H
  have C : Sep NoB w Au [(blk AL 100 [(iv ((m.blocks.getD k (0, 0, 0)).1)), (iv ((m.blocks.getD k (0, 0, 0)).2.1)), (iv ((m.blocks.getD k (0, 0, 0)).2.2))]), (blk D 30 [(iv ((n_3 m.blocks k).1)), (iv ((n_3 m.blocks k).2))]), (blk P 30 [(iv 0), (iv 0)]), (blk o 103 [(iv m.scale), vk]), (sl vk 3 m.blocks.length (trips m.blocks))] := AD; clear AD AC
  refine n3 (s1 V (c_5 rfl f_5 (V.ev rfl) (C.bk 1 rfl) (l := [(iv ((n_3 m.blocks k).1)), (iv ((n_3 m.blocks k).2))]) rfl rfl) fun Ad W => ?_); clear V Ac
  refine s1 W (a_3 rfl fd_100_1 W.e) fun Ae X => ?_; clear W Ad
  refine s1 X (a_4 rfl ty_3 X.e (C.bk 0 rfl) rfl) fun Af Y => ?_; clear X Ae
  refine s1 Y (a_3 rfl fd_100_0 Y.e) fun Ag Z => ?_; clear Y Af
  refine s1 Z (a_3 rfl m_4 Z.e) fun Ah a => ?_; clear Z Ag
  refine s1 a (a_4 rfl ty_3 a.e (C.bk 0 rfl) rfl) fun Ai I => ?_; clear a Ah
  refine s1 I (i_5 rfl I.e I.e (by omega) (by omega)) fun Aj b => ?_; clear I Ai
  refine s1 b (a_3 rfl fd_100_1 b.e) fun Ak c => ?_; clear b Aj
  refine s1 c (a_4 rfl ty_3 c.e (C.bk 0 rfl) rfl) fun Al d => ?_; clear c Ak
  refine s1 d (a_3 rfl fd_100_0 d.e) fun Am f => ?_; clear d Al
  refine s1 f (a_3 rfl m_3 f.e) fun An g => ?_; clear f Am
  refine s1 g (a_4 rfl ty_3 g.e (C.bk 0 rfl) rfl) fun Ao J => ?_; clear g An
  refine s1 J (i_5 rfl J.e J.e (by omega) (by omega)) fun Ap K => ?_; clear J Ao
  refine s1 K (e_1 rfl (pv2 K.e K.e) (l_3 _ _)) fun Aq L => ?_; clear K Ap
  refine s2 L (b_2 rfl en_87 (ev2 L.e L.e) (cut_ok _ _ _ _ _)) ?_
  rintro Ar _ A5 ⟨rfl, y⟩ M; have AE := C.step y; clear y L C Aq
  refine s7 M (b_6 AE rfl f_5 M.e M.e (i := 1) rfl (vs := [(iv ((cutR ((n_3 m.blocks k).1, (n_3 m.blocks k).2) (((m.blocks.getD k (0, 0, 0)).2.2) - ((m.blocks.getD k (0, 0, 0)).2.1), ((m.blocks.getD k (0, 0, 0)).2.2) - ((m.blocks.getD k (0, 0, 0)).1))).1)), (iv ((cutR ((n_3 m.blocks k).1, (n_3 m.blocks k).2) (((m.blocks.getD k (0, 0, 0)).2.2) - ((m.blocks.getD k (0, 0, 0)).2.1), ((m.blocks.getD k (0, 0, 0)).2.2) - ((m.blocks.getD k (0, 0, 0)).1))).2))]) rfl rfl rfl (Nat.le_of_ble_eq_true rfl)) ?_
  intro _ Av AF u; clear M
  have AG : Sep NoB w Av [(blk AL 100 [(iv ((m.blocks.getD k (0, 0, 0)).1)), (iv ((m.blocks.getD k (0, 0, 0)).2.1)), (iv ((m.blocks.getD k (0, 0, 0)).2.2))]), (blk D 30 [(iv ((cutR ((n_3 m.blocks k).1, (n_3 m.blocks k).2) (((m.blocks.getD k (0, 0, 0)).2.2) - ((m.blocks.getD k (0, 0, 0)).2.1), ((m.blocks.getD k (0, 0, 0)).2.2) - ((m.blocks.getD k (0, 0, 0)).1))).1)), (iv ((cutR ((n_3 m.blocks k).1, (n_3 m.blocks k).2) (((m.blocks.getD k (0, 0, 0)).2.2) - ((m.blocks.getD k (0, 0, 0)).2.1), ((m.blocks.getD k (0, 0, 0)).2.2) - ((m.blocks.getD k (0, 0, 0)).1))).2))]), (blk P 30 [(iv 0), (iv 0)]), (blk o 103 [(iv m.scale), vk]), (sl vk 3 m.blocks.length (trips m.blocks))] := AF; clear AF AE
  refine e_8 (h_0 (b_1 ?_))
  have h := u.as [(10, (iv (k : Int))), (9, (iv (m.blocks.length : Int))), (8, vk), (3, (bptr D 0)), (2, (bptr P 0))] rfl; clear u
  refine a_5 (s1 h (g_1 rfl h.e (evc _ _) (by omega) (by omega)) fun As j => ?_); clear h Ar
  refine s1 j (a_1 rfl j.e) fun Az AQ => ?_; clear j As
  refine e_8 ?_
  have AR := AG.gkp (gpc 1 (gpc 2 (gpc 3 (gpc 4 gpn)))); clear AG
  exact b_1 ⟨k + 1, ⟨AQ.as _ rfl, AR, by omega⟩, by omega⟩
 skip
 rw [decide_eq_false AJ] at A
 refine b_8 A rfl (h_6 (b_5 (b_5 (f_9 (b_1 (m2 (s1 A (c_5 rfl f_5 (A.ev rfl) (B.bk 0 rfl) (l := [(iv ((n_3 m.blocks k).1)), (iv ((n_3 m.blocks k).2))]) rfl rfl) fun A0 N => ?_))))))); clear A AK
 refine s7 N (b_6 B rfl f_5 N.e N.e (i := 1) rfl (vs := [(iv ((n_3 m.blocks k).1)), (iv ((n_3 m.blocks k).2))]) rfl rfl rfl (Nat.le_of_ble_eq_true rfl)) ?_
 intro _ Aw AH x; clear N
 have AI : Sep NoB w Aw [(blk D 30 [(iv ((n_3 m.blocks k).1)), (iv ((n_3 m.blocks k).2))]), (blk P 30 [(iv ((n_3 m.blocks k).1)), (iv ((n_3 m.blocks k).2))]), (blk o 103 [(iv m.scale), vk]), (sl vk 3 m.blocks.length (trips m.blocks))] := AH; clear AH B
 refine n1 (c_2 (a_8 x (.inl rfl) (a_2 x rfl (.cellA rfl f_5 (AI.bk 1 rfl) (l := [(iv ((n_3 m.blocks k).1)), (iv ((n_3 m.blocks k).2))]) rfl rfl)) ?_))
 exact ⟨by unfold d_9; rw [show m.blocks.length = k by omega], AI.ext⟩
end Go.Proofs.Ytohgladndklciaa

namespace Go.Proofs.Ytohgladndklciaa
open Go.RowKit Go.Shelf Go.Eng Go.Hard
theorem k_0 : Try.prog.underlying 104 = some (.slice 107) := by kernel_rfl
theorem h_8 : tyK Try.prog 107 = some (true, 2) := by kernel_rfl
theorem en_119 : ∀ args w, (callFunc 119 args).run Try.prog w = .ok (.enter 119 args) w := enters_of Try.func119 (by kernel_rfl) rfl
theorem ty_149 : tyK Try.prog 149 = some (false, 1) := by kernel_rfl
theorem en_112 : ∀ args w, (callFunc 112 args).run Try.prog w = .ok (.enter 112 args) w := enters_of Try.func112 (by kernel_rfl) rfl
theorem en_111 : ∀ args w, (callFunc 111 args).run Try.prog w = .ok (.enter 111 args) w := enters_of Try.func111 (by kernel_rfl) rfl
theorem en_120 : ∀ args w, (callFunc 120 args).run Try.prog w = .ok (.enter 120 args) w := enters_of Try.func120 (by kernel_rfl) rfl
theorem ty_151 : tyK Try.prog 151 = some (false, 1) := by kernel_rfl
theorem en_114 : ∀ args w, (callFunc 114 args).run Try.prog w = .ok (.enter 114 args) w := enters_of Try.func114 (by kernel_rfl) rfl
theorem en_113 : ∀ args w, (callFunc 113 args).run Try.prog w = .ok (.enter 113 args) w := enters_of Try.func113 (by kernel_rfl) rfl
theorem un_53 : Try.prog.underlying 53 = some (.slice 98) := by kernel_rfl
theorem ty_98 : tyK Try.prog 98 = some (true, 2) := by kernel_rfl
theorem en_117 : ∀ args w, (callFunc 117 args).run Try.prog w = .ok (.enter 117 args) w := enters_of Try.func117 (by kernel_rfl) rfl
theorem ty_141 : tyK Try.prog 141 = some (false, 1) := by kernel_rfl
theorem en_107 : ∀ args w, (callFunc 107 args).run Try.prog w = .ok (.enter 107 args) w := enters_of Try.func107 (by kernel_rfl) rfl
theorem en_106 : ∀ args w, (callFunc 106 args).run Try.prog w = .ok (.enter 106 args) w := enters_of Try.func106 (by kernel_rfl) rfl
theorem en_115 : ∀ args w, (callFunc 115 args).run Try.prog w = .ok (.enter 115 args) w := enters_of Try.func115 (by kernel_rfl) rfl
theorem ty_112 : tyK Try.prog 112 = some (false, 1) := by kernel_rfl
theorem en_100 : ∀ args w, (callFunc 100 args).run Try.prog w = .ok (.enter 100 args) w := enters_of Try.func100 (by kernel_rfl) rfl
theorem en_99 : ∀ args w, (callFunc 99 args).run Try.prog w = .ok (.enter 99 args) w := enters_of Try.func99 (by kernel_rfl) rfl
theorem un_50 : Try.prog.underlying 50 = some (.slice 30) := by kernel_rfl
theorem en_118 : ∀ args w, (callFunc 118 args).run Try.prog w = .ok (.enter 118 args) w := enters_of Try.func118 (by kernel_rfl) rfl
theorem y_2 : Try.prog.underlying 34 = some (.slice 106) := by kernel_rfl
theorem k_9 : tyK Try.prog 106 = some (true, 5) := by kernel_rfl
theorem en_109 : ∀ args w, (callFunc 109 args).run Try.prog w = .ok (.enter 109 args) w := enters_of Try.func109 (by kernel_rfl) rfl
theorem ty_127 : tyK Try.prog 127 = some (false, 1) := by kernel_rfl
theorem en_90 : ∀ args w, (callFunc 90 args).run Try.prog w = .ok (.enter 90 args) w := enters_of Try.func90 (by kernel_rfl) rfl
theorem en_89 : ∀ args w, (callFunc 89 args).run Try.prog w = .ok (.enter 89 args) w := enters_of Try.func89 (by kernel_rfl) rfl
theorem aa_3 : Try.prog.underlying 35 = some (.slice 103) := by kernel_rfl
theorem t_0 : tyK Try.prog 103 = some (true, 2) := by kernel_rfl
theorem en_110 : ∀ args w, (callFunc 110 args).run Try.prog w = .ok (.enter 110 args) w := enters_of Try.func110 (by kernel_rfl) rfl
theorem ty_129 : tyK Try.prog 129 = some (false, 1) := by kernel_rfl
theorem en_92 : ∀ args w, (callFunc 92 args).run Try.prog w = .ok (.enter 92 args) w := enters_of Try.func92 (by kernel_rfl) rfl
theorem en_91 : ∀ args w, (callFunc 91 args).run Try.prog w = .ok (.enter 91 args) w := enters_of Try.func91 (by kernel_rfl) rfl
theorem indexf_row (xs : List (Int × Int)) (v : Value) (fid : Nat) (fs cs : Array Value) (p : Nat → Bool) (w : World) (hv : SlAt w v 2 xs.length (pairs xs)) (hlen : xs.length ≤ 1000000) (hf : Asks Try.prog w fid fs cs xs.length (fun i => (Value.agg #[(iv ((xs.getD i (0, 0)).1)), (iv ((xs.getD i (0, 0)).2))])) p) :
  Calls Try.prog 119 #[v, (Value.func (.func fid) fs cs)] w (Ret fun v w' => v = .int .i64 (fidx p xs.length) ∧ Ext NoB w w') := by
 refine b_0 Try.func119 rfl fun j R => ?_
 replace R : Fr 19 [] [(0, v), (1, (Value.func (.func fid) fs cs))] j := R
 have W : Sep NoB w w [(sl v 2 xs.length (pairs xs))] := f_1 ⟨rfl, hv, trivial⟩
 refine m2 (s1 R (a_0 rfl (evc _ _)) fun y S => ?_); clear R j
 refine n2 (m2 (s1 S (a_1 rfl S.e) fun z T => ?_)); clear S y
 refine s1 T (e_0 rfl k_0 T.e (W.ok 0 _ rfl)) fun a5 b => ?_; clear T z
 refine s1 b (a_1 rfl (evc _ _)) fun a7 c => ?_; clear b a5
 refine n1 (c_6 ?_)
 have d := c.as [(8, (iv 0)), (7, (iv (xs.length : Int))), (0, v), (1, (Value.func (.func fid) fs cs))] rfl; clear c
 refine h_7 (G := Nat) (fun (k : Nat) a_ w_ => Fr 19 [] [(8, (iv (k : Int))), (7, (iv (xs.length : Int))), (0, v), (1, (Value.func (.func fid) fs cs))] a_ ∧ Sep NoB w w_ [(sl v 2 xs.length (pairs xs))] ∧ (k ≤ xs.length) ∧ (∀ i, i < k → p i = false)) (fun k => xs.length - k) 0 ⟨d.as _ rfl, W, by omega, by omega⟩ ?_
 clear d W a7
 rintro k l AF ⟨D, C, hk, hn⟩
 refine m2 (s1 D (g_2 rfl D.e D.e) fun Z A => ?_); clear D l
 refine n2 ?_
 by_cases Y : (k : Int) < (xs.length : Int)
 ·skip
  rw [decide_eq_true Y] at A
  refine c_0 A rfl (d_4 (b_1 (b_9 (c_6 (m2 (s1 A (a_1 rfl A.e) fun m H => ?_)))))); clear A Z
  refine s1 H (a_0 rfl H.e) fun n I => ?_; clear H m
  refine n4 (s1 I (a_1 rfl I.e) fun o J => ?_); clear I n
  refine s1 J (a_1 rfl J.e) fun q K => ?_; clear J o
  refine s1 K (a_1 rfl K.e) fun r E => ?_; clear K q
  refine s1 E (b_4 rfl k_0 h_8 E.e (i := k) E.e (C.ok 0 _ rfl) (by decide) (by omega)) fun s L => ?_; clear E r
  refine s1 L (e_6 rfl h_8 L.e (C.ok 0 _ rfl) (h_4 (by omega)) rfl (by decide)) fun t F => ?_; clear L s
  refine s2 F (j_8 rfl (F.ev rfl) hf.1 (ev1 F.e) (hf.2 k (by omega) _ C.ext)) ?_
  rintro a _ AG ⟨rfl, g⟩ B; have X := C.step g; clear F C t
  refine n1 ?_
  rcases Bool.eq_false_or_eq_true (p k) with Q | Q
  ·skip
   rw [Q] at B
   refine c_0 B rfl (b_9 ?_)
   have M := B.as [(5, (iv (k : Int)))] rfl; clear B
   refine a_5 (s1 M (a_1 rfl M.e) fun u N => ?_); clear M a
   refine s1 N (a_0 rfl N.e) fun AC U => ?_; clear N u
   exact n1 (c_2 (c_4 (a_6 (a_6 (c_4 (a_6 (a_8 U (.inl rfl) (a_2 U rfl (.tmp rfl)) (⟨by first | rw [j_7 (by omega) hn (by assumption)] | rw [i_0 (fun i hi => hn i (by omega))], X.ext⟩))))))))
  skip
  rw [Q] at B
  refine b_8 B rfl (d_4 (h_0 (b_1 ?_)))
  have O := B.as [(8, (iv (k : Int))), (7, (iv (xs.length : Int))), (0, v), (1, (Value.func (.func fid) fs cs))] rfl; clear B
  refine a_5 (s1 O (g_1 rfl O.e (evc _ _) (by omega) (by omega)) fun x P => ?_); clear O a
  refine s1 P (a_1 rfl P.e) fun AD f => ?_; clear P x
  refine e_8 ?_
  exact b_1 ⟨k + 1, ⟨f.as _ rfl, X, by omega, (fun i hi => by rcases Nat.lt_succ_iff_lt_or_eq.1 hi with h | h; exact hn i h; subst h; assumption)⟩, by omega⟩
 skip
 rw [decide_eq_false Y] at A
 refine b_8 A rfl (h_6 (b_5 (b_5 (f_9 (b_1 (m2 (s1 A (a_0 rfl (evc _ _)) fun AE V => ?_))))))); clear A Z
 exact n1 (c_2 (a_8 V (.inl rfl) (a_2 V rfl (.tmp rfl)) (⟨by first | rw [j_7 (by omega) hn (by assumption)] | rw [i_0 (fun i hi => hn i (by omega))], C.ext⟩)))
theorem contf_row (xs : List (Int × Int)) (v : Value) (fid : Nat) (fs cs : Array Value) (p : Nat → Bool) (w : World) (hv : SlAt w v 2 xs.length (pairs xs)) (hlen : xs.length ≤ 1000000) (hf : Asks Try.prog w fid fs cs xs.length (fun i => (Value.agg #[(iv ((xs.getD i (0, 0)).1)), (iv ((xs.getD i (0, 0)).2))])) p) :
  Calls Try.prog 111 #[v, (Value.func (.func fid) fs cs)] w (Ret fun v w' => v = .bool ((List.range xs.length).any p) ∧ Ext NoB w w') := by
 refine b_0 Try.func111 rfl fun K B => ?_
 replace B : Fr 9 [] [(0, v), (1, (Value.func (.func fid) fs cs))] K := B
 have D : Sep NoB w w [(sl v 2 xs.length (pairs xs))] := f_1 ⟨rfl, hv, trivial⟩
 refine m2 (s1 B (a_0 rfl (evc _ _)) fun M F => ?_); clear B K
 refine n4 (s1 F (a_1 rfl F.e) fun N G => ?_); clear F M
 refine s1 G (a_1 rfl G.e) fun O C => ?_; clear G N
 refine s2 C (b_2 rfl en_119 (ev2 C.e C.e) (indexf_row xs _ _ _ _ p _ (D.ok 0 _ rfl) hlen (hf.step D.ext))) ?_
 rintro P _ R ⟨rfl, I⟩ H; have J := D.step I; clear I C D O
 refine s1 H (x_4 rfl H.e (evc _ _)) fun L A => ?_; clear H P
 refine s1 A (a_0 rfl A.e) fun Q E => ?_; clear A L
 exact n1 (c_2 (a_8 E (.inl rfl) (a_2 E rfl (.tmp rfl)) (⟨congrArg Value.bool (r_4 p xs.length), J.ext⟩)))
theorem clo_row (I J : Int) (b fid : Nat) (fs cs : Array Value) (q : Bool) (w : World) (hb : (blk b 149 [.func (.func fid) fs cs]).p w) (hen : ∀ args W, (callFunc fid args).run Try.prog W = .ok (.enter fid args) W) (hf : ∀ W, Ext NoB w W → Calls Try.prog fid (fs ++ #[(Value.agg #[(iv I), (iv J)])] ++ cs) W (Ret fun v w' => v = .bool q ∧ Ext NoB W w')) :
  Calls Try.prog 112 #[(Value.agg #[(iv I), (iv J)]), (bptr b 0)] w (Ret fun v w' => v = .bool (!q) ∧ Ext NoB w w') := by
 refine b_0 Try.func112 rfl fun O B => ?_
 replace B : Fr 8 [] [(0, (Value.agg #[(iv I), (iv J)])), (1, (bptr b 0))] O := B
 have L : Sep NoB w w [(rob b 149 [(Value.func (.func fid) fs cs)])] := f_1 ⟨rfl, hb, trivial⟩
 refine m2 (s2 B (f_2 L rfl B.e (cs := [(iv I), (iv J)]) rfl) ?_)
 rintro S _ Z ⟨Y, rfl, C⟩ K; clear B L O
 refine s1 K (a_0 rfl (evc _ _)) fun T G => ?_; clear K S
 refine n4 (s1 G (a_4 rfl ty_149 G.e (C.rk 1 rfl) rfl) fun U H => ?_); clear G T
 refine s1 H (c_5 rfl h_8 (H.ev rfl) (C.bk 0 rfl) (l := [(iv I), (iv J)]) rfl rfl) fun P A => ?_; clear H U
 refine s2 A (j_8 rfl (A.ev rfl) hen (ev1 A.e) (hf _ C.ext)) ?_
 rintro Q _ X ⟨rfl, M⟩ D; have N := C.step M; clear A C P
 refine s1 D (f_7 rfl D.e) fun R E => ?_; clear D Q
 refine s1 E (a_0 rfl E.e) fun V F => ?_; clear E R
 exact n1 (c_2 (a_8 F (.inl rfl) (a_2 F rfl (.tmp rfl)) (⟨rfl, N.ext⟩)))
theorem all_row (xs : List (Int × Int)) (v : Value) (fid : Nat) (fs cs : Array Value) (p : Nat → Bool) (w : World) (hv : SlAt w v 2 xs.length (pairs xs)) (hlen : xs.length ≤ 1000000) (hf : Asks Try.prog w fid fs cs xs.length (fun i => (Value.agg #[(iv ((xs.getD i (0, 0)).1)), (iv ((xs.getD i (0, 0)).2))])) p) :
  Calls Try.prog 94 #[v, (Value.func (.func fid) fs cs)] w (Ret fun v w' => v = .bool ((List.range xs.length).all p) ∧ Ext NoB w w') := by
 refine b_0 Try.func94 rfl fun M B => ?_
 replace B : Fr 9 [] [(0, v), (1, (Value.func (.func fid) fs cs))] M := B
 have K : Sep NoB w w [(sl v 2 xs.length (pairs xs))] := f_1 ⟨rfl, hv, trivial⟩
 refine m2 (s2 B (f_2 K rfl B.e (cs := [(Value.func (.func fid) fs cs)]) rfl) ?_)
 rintro Q _ X ⟨T, rfl, C⟩ J; clear B K M
 refine s1 J (a_0 rfl (evc _ _)) fun R G => ?_; clear J Q
 refine n4 (s1 G (a_1 rfl G.e) fun S H => ?_); clear G R
 refine s1 H (h_1 rfl ev0 (ev1 H.e)) fun N A => ?_; clear H S
 refine s2 A (b_2 rfl en_111 (ev2 A.e A.e) (contf_row xs _ 112 #[] #[(bptr T 0)] (fun i => !p i) _ (C.ok 1 _ rfl) hlen ⟨en_112, fun i hi W hW => clo_row _ _ _ _ _ _ (p i) W ((C.step hW).bk 0 rfl) hf.1 (fun W' hW' => hf.2 i hi W' (C.ext.trans (hW.trans hW')))⟩)) ?_
 rintro O _ V ⟨rfl, I⟩ D; have L := C.step I; clear I A C N
 refine s1 D (f_7 rfl D.e) fun P E => ?_; clear D O
 refine s1 E (a_0 rfl E.e) fun U F => ?_; clear E P
 exact n1 (c_2 (a_8 F (.inl rfl) (a_2 F rfl (.tmp rfl)) (⟨congrArg Value.bool (any_not p xs.length), L.ext⟩)))
theorem indexf_blk (xs : List (Int × Int × Int)) (v : Value) (fid : Nat) (fs cs : Array Value) (p : Nat → Bool) (w : World) (hv : SlAt w v 3 xs.length (trips xs)) (hlen : xs.length ≤ 1000000) (hf : Asks Try.prog w fid fs cs xs.length (fun i => (Value.agg #[(iv ((xs.getD i (0, 0, 0)).1)), (iv ((xs.getD i (0, 0, 0)).2.1)), (iv ((xs.getD i (0, 0, 0)).2.2))])) p) :
  Calls Try.prog 120 #[v, (Value.func (.func fid) fs cs)] w (Ret fun v w' => v = .int .i64 (fidx p xs.length) ∧ Ext NoB w w') := by
 refine b_0 Try.func120 rfl fun j R => ?_
 replace R : Fr 19 [] [(0, v), (1, (Value.func (.func fid) fs cs))] j := R
 have W : Sep NoB w w [(sl v 3 xs.length (trips xs))] := f_1 ⟨rfl, hv, trivial⟩
 refine m2 (s1 R (a_0 rfl (evc _ _)) fun y S => ?_); clear R j
 refine n2 (m2 (s1 S (a_1 rfl S.e) fun z T => ?_)); clear S y
 refine s1 T (e_0 rfl y_6 T.e (W.ok 0 _ rfl)) fun a5 b => ?_; clear T z
 refine s1 b (a_1 rfl (evc _ _)) fun a7 c => ?_; clear b a5
 refine n1 (c_6 ?_)
 have d := c.as [(8, (iv 0)), (7, (iv (xs.length : Int))), (0, v), (1, (Value.func (.func fid) fs cs))] rfl; clear c
 refine h_7 (G := Nat) (fun (k : Nat) a_ w_ => Fr 19 [] [(8, (iv (k : Int))), (7, (iv (xs.length : Int))), (0, v), (1, (Value.func (.func fid) fs cs))] a_ ∧ Sep NoB w w_ [(sl v 3 xs.length (trips xs))] ∧ (k ≤ xs.length) ∧ (∀ i, i < k → p i = false)) (fun k => xs.length - k) 0 ⟨d.as _ rfl, W, by omega, by omega⟩ ?_
 clear d W a7
 rintro k l AF ⟨D, C, hk, hn⟩
 refine m2 (s1 D (g_2 rfl D.e D.e) fun Z A => ?_); clear D l
 refine n2 ?_
 by_cases Y : (k : Int) < (xs.length : Int)
 ·skip
  rw [decide_eq_true Y] at A
  refine c_0 A rfl (d_4 (b_1 (b_9 (c_6 (m2 (s1 A (a_1 rfl A.e) fun m H => ?_)))))); clear A Z
  refine s1 H (a_0 rfl H.e) fun n I => ?_; clear H m
  refine n4 (s1 I (a_1 rfl I.e) fun o J => ?_); clear I n
  refine s1 J (a_1 rfl J.e) fun q K => ?_; clear J o
  refine s1 K (a_1 rfl K.e) fun r E => ?_; clear K q
  refine s1 E (b_4 rfl y_6 y_5 E.e (i := k) E.e (C.ok 0 _ rfl) (by decide) (by omega)) fun s L => ?_; clear E r
  refine s1 L (e_6 rfl y_5 L.e (C.ok 0 _ rfl) (trips_all (by omega)) rfl (by decide)) fun t F => ?_; clear L s
  refine s2 F (j_8 rfl (F.ev rfl) hf.1 (ev1 F.e) (hf.2 k (by omega) _ C.ext)) ?_
  rintro a _ AG ⟨rfl, g⟩ B; have X := C.step g; clear F C t
  refine n1 ?_
  rcases Bool.eq_false_or_eq_true (p k) with Q | Q
  ·skip
   rw [Q] at B
   refine c_0 B rfl (b_9 ?_)
   have M := B.as [(5, (iv (k : Int)))] rfl; clear B
   refine a_5 (s1 M (a_1 rfl M.e) fun u N => ?_); clear M a
   refine s1 N (a_0 rfl N.e) fun AC U => ?_; clear N u
   exact n1 (c_2 (c_4 (a_6 (a_6 (c_4 (a_6 (a_8 U (.inl rfl) (a_2 U rfl (.tmp rfl)) (⟨by first | rw [j_7 (by omega) hn (by assumption)] | rw [i_0 (fun i hi => hn i (by omega))], X.ext⟩))))))))
  skip
  rw [Q] at B
  refine b_8 B rfl (d_4 (h_0 (b_1 ?_)))
  have O := B.as [(8, (iv (k : Int))), (7, (iv (xs.length : Int))), (0, v), (1, (Value.func (.func fid) fs cs))] rfl; clear B
  refine a_5 (s1 O (g_1 rfl O.e (evc _ _) (by omega) (by omega)) fun x P => ?_); clear O a
  refine s1 P (a_1 rfl P.e) fun AD f => ?_; clear P x
  refine e_8 ?_
  exact b_1 ⟨k + 1, ⟨f.as _ rfl, X, by omega, (fun i hi => by rcases Nat.lt_succ_iff_lt_or_eq.1 hi with h | h; exact hn i h; subst h; assumption)⟩, by omega⟩
 skip
 rw [decide_eq_false Y] at A
 refine b_8 A rfl (h_6 (b_5 (b_5 (f_9 (b_1 (m2 (s1 A (a_0 rfl (evc _ _)) fun AE V => ?_))))))); clear A Z
 exact n1 (c_2 (a_8 V (.inl rfl) (a_2 V rfl (.tmp rfl)) (⟨by first | rw [j_7 (by omega) hn (by assumption)] | rw [i_0 (fun i hi => hn i (by omega))], C.ext⟩)))
theorem contf_blk (xs : List (Int × Int × Int)) (v : Value) (fid : Nat) (fs cs : Array Value) (p : Nat → Bool) (w : World) (hv : SlAt w v 3 xs.length (trips xs)) (hlen : xs.length ≤ 1000000) (hf : Asks Try.prog w fid fs cs xs.length (fun i => (Value.agg #[(iv ((xs.getD i (0, 0, 0)).1)), (iv ((xs.getD i (0, 0, 0)).2.1)), (iv ((xs.getD i (0, 0, 0)).2.2))])) p) :
  Calls Try.prog 113 #[v, (Value.func (.func fid) fs cs)] w (Ret fun v w' => v = .bool ((List.range xs.length).any p) ∧ Ext NoB w w') := by
 refine b_0 Try.func113 rfl fun K B => ?_
 replace B : Fr 9 [] [(0, v), (1, (Value.func (.func fid) fs cs))] K := B
 have D : Sep NoB w w [(sl v 3 xs.length (trips xs))] := f_1 ⟨rfl, hv, trivial⟩
 refine m2 (s1 B (a_0 rfl (evc _ _)) fun M F => ?_); clear B K
 refine n4 (s1 F (a_1 rfl F.e) fun N G => ?_); clear F M
 refine s1 G (a_1 rfl G.e) fun O C => ?_; clear G N
 refine s2 C (b_2 rfl en_120 (ev2 C.e C.e) (indexf_blk xs _ _ _ _ p _ (D.ok 0 _ rfl) hlen (hf.step D.ext))) ?_
 rintro P _ R ⟨rfl, I⟩ H; have J := D.step I; clear I C D O
 refine s1 H (x_4 rfl H.e (evc _ _)) fun L A => ?_; clear H P
 refine s1 A (a_0 rfl A.e) fun Q E => ?_; clear A L
 exact n1 (c_2 (a_8 E (.inl rfl) (a_2 E rfl (.tmp rfl)) (⟨congrArg Value.bool (r_4 p xs.length), J.ext⟩)))
theorem clo_blk (I J K : Int) (b fid : Nat) (fs cs : Array Value) (q : Bool) (w : World) (hb : (blk b 151 [.func (.func fid) fs cs]).p w) (hen : ∀ args W, (callFunc fid args).run Try.prog W = .ok (.enter fid args) W) (hf : ∀ W, Ext NoB w W → Calls Try.prog fid (fs ++ #[(Value.agg #[(iv I), (iv J), (iv K)])] ++ cs) W (Ret fun v w' => v = .bool q ∧ Ext NoB W w')) :
  Calls Try.prog 114 #[(Value.agg #[(iv I), (iv J), (iv K)]), (bptr b 0)] w (Ret fun v w' => v = .bool (!q) ∧ Ext NoB w w') := by
 refine b_0 Try.func114 rfl fun P B => ?_
 replace B : Fr 8 [] [(0, (Value.agg #[(iv I), (iv J), (iv K)])), (1, (bptr b 0))] P := B
 have M : Sep NoB w w [(rob b 151 [(Value.func (.func fid) fs cs)])] := f_1 ⟨rfl, hb, trivial⟩
 refine m2 (s2 B (f_2 M rfl B.e (cs := [(iv I), (iv J), (iv K)]) rfl) ?_)
 rintro T _ a ⟨Z, rfl, C⟩ L; clear B M P
 refine s1 L (a_0 rfl (evc _ _)) fun U G => ?_; clear L T
 refine n4 (s1 G (a_4 rfl ty_151 G.e (C.rk 1 rfl) rfl) fun V H => ?_); clear G U
 refine s1 H (c_5 rfl y_5 (H.ev rfl) (C.bk 0 rfl) (l := [(iv I), (iv J), (iv K)]) rfl rfl) fun Q A => ?_; clear H V
 refine s2 A (j_8 rfl (A.ev rfl) hen (ev1 A.e) (hf _ C.ext)) ?_
 rintro R _ Y ⟨rfl, N⟩ D; have O := C.step N; clear A C Q
 refine s1 D (f_7 rfl D.e) fun S E => ?_; clear D R
 refine s1 E (a_0 rfl E.e) fun X F => ?_; clear E S
 exact n1 (c_2 (a_8 F (.inl rfl) (a_2 F rfl (.tmp rfl)) (⟨rfl, O.ext⟩)))
theorem all_blk (xs : List (Int × Int × Int)) (v : Value) (fid : Nat) (fs cs : Array Value) (p : Nat → Bool) (w : World) (hv : SlAt w v 3 xs.length (trips xs)) (hlen : xs.length ≤ 1000000) (hf : Asks Try.prog w fid fs cs xs.length (fun i => (Value.agg #[(iv ((xs.getD i (0, 0, 0)).1)), (iv ((xs.getD i (0, 0, 0)).2.1)), (iv ((xs.getD i (0, 0, 0)).2.2))])) p) :
  Calls Try.prog 97 #[v, (Value.func (.func fid) fs cs)] w (Ret fun v w' => v = .bool ((List.range xs.length).all p) ∧ Ext NoB w w') := by
 refine b_0 Try.func97 rfl fun M B => ?_
 replace B : Fr 9 [] [(0, v), (1, (Value.func (.func fid) fs cs))] M := B
 have K : Sep NoB w w [(sl v 3 xs.length (trips xs))] := f_1 ⟨rfl, hv, trivial⟩
 refine m2 (s2 B (f_2 K rfl B.e (cs := [(Value.func (.func fid) fs cs)]) rfl) ?_)
 rintro Q _ X ⟨T, rfl, C⟩ J; clear B K M
 refine s1 J (a_0 rfl (evc _ _)) fun R G => ?_; clear J Q
 refine n4 (s1 G (a_1 rfl G.e) fun S H => ?_); clear G R
 refine s1 H (h_1 rfl ev0 (ev1 H.e)) fun N A => ?_; clear H S
 refine s2 A (b_2 rfl en_113 (ev2 A.e A.e) (contf_blk xs _ 114 #[] #[(bptr T 0)] (fun i => !p i) _ (C.ok 1 _ rfl) hlen ⟨en_114, fun i hi W hW => clo_blk _ _ _ _ _ _ _ (p i) W ((C.step hW).bk 0 rfl) hf.1 (fun W' hW' => hf.2 i hi W' (C.ext.trans (hW.trans hW')))⟩)) ?_
 rintro O _ V ⟨rfl, I⟩ D; have L := C.step I; clear I A C N
 refine s1 D (f_7 rfl D.e) fun P E => ?_; clear D O
 refine s1 E (a_0 rfl E.e) fun U F => ?_; clear E P
 exact n1 (c_2 (a_8 F (.inl rfl) (a_2 F rfl (.tmp rfl)) (⟨congrArg Value.bool (any_not p xs.length), L.ext⟩)))
theorem indexf_read (xs : List (Int × Int)) (v : Value) (fid : Nat) (fs cs : Array Value) (p : Nat → Bool) (w : World) (hv : SlAt w v 2 xs.length (pairs xs)) (hlen : xs.length ≤ 1000000) (hf : Asks Try.prog w fid fs cs xs.length (fun i => (Value.agg #[(iv ((xs.getD i (0, 0)).1)), (iv ((xs.getD i (0, 0)).2))])) p) :
  Calls Try.prog 117 #[v, (Value.func (.func fid) fs cs)] w (Ret fun v w' => v = .int .i64 (fidx p xs.length) ∧ Ext NoB w w') := by
 refine b_0 Try.func117 rfl fun j R => ?_
 replace R : Fr 19 [] [(0, v), (1, (Value.func (.func fid) fs cs))] j := R
 have W : Sep NoB w w [(sl v 2 xs.length (pairs xs))] := f_1 ⟨rfl, hv, trivial⟩
 refine m2 (s1 R (a_0 rfl (evc _ _)) fun y S => ?_); clear R j
 refine n2 (m2 (s1 S (a_1 rfl S.e) fun z T => ?_)); clear S y
 refine s1 T (e_0 rfl un_53 T.e (W.ok 0 _ rfl)) fun a5 b => ?_; clear T z
 refine s1 b (a_1 rfl (evc _ _)) fun a7 c => ?_; clear b a5
 refine n1 (c_6 ?_)
 have d := c.as [(8, (iv 0)), (7, (iv (xs.length : Int))), (0, v), (1, (Value.func (.func fid) fs cs))] rfl; clear c
 refine h_7 (G := Nat) (fun (k : Nat) a_ w_ => Fr 19 [] [(8, (iv (k : Int))), (7, (iv (xs.length : Int))), (0, v), (1, (Value.func (.func fid) fs cs))] a_ ∧ Sep NoB w w_ [(sl v 2 xs.length (pairs xs))] ∧ (k ≤ xs.length) ∧ (∀ i, i < k → p i = false)) (fun k => xs.length - k) 0 ⟨d.as _ rfl, W, by omega, by omega⟩ ?_
 clear d W a7
 rintro k l AF ⟨D, C, hk, hn⟩
 refine m2 (s1 D (g_2 rfl D.e D.e) fun Z A => ?_); clear D l
 refine n2 ?_
 by_cases Y : (k : Int) < (xs.length : Int)
 ·skip
  rw [decide_eq_true Y] at A
  refine c_0 A rfl (d_4 (b_1 (b_9 (c_6 (m2 (s1 A (a_1 rfl A.e) fun m H => ?_)))))); clear A Z
  refine s1 H (a_0 rfl H.e) fun n I => ?_; clear H m
  refine n4 (s1 I (a_1 rfl I.e) fun o J => ?_); clear I n
  refine s1 J (a_1 rfl J.e) fun q K => ?_; clear J o
  refine s1 K (a_1 rfl K.e) fun r E => ?_; clear K q
  refine s1 E (b_4 rfl un_53 ty_98 E.e (i := k) E.e (C.ok 0 _ rfl) (by decide) (by omega)) fun s L => ?_; clear E r
  refine s1 L (e_6 rfl ty_98 L.e (C.ok 0 _ rfl) (h_4 (by omega)) rfl (by decide)) fun t F => ?_; clear L s
  refine s2 F (j_8 rfl (F.ev rfl) hf.1 (ev1 F.e) (hf.2 k (by omega) _ C.ext)) ?_
  rintro a _ AG ⟨rfl, g⟩ B; have X := C.step g; clear F C t
  refine n1 ?_
  rcases Bool.eq_false_or_eq_true (p k) with Q | Q
  ·skip
   rw [Q] at B
   refine c_0 B rfl (b_9 ?_)
   have M := B.as [(5, (iv (k : Int)))] rfl; clear B
   refine a_5 (s1 M (a_1 rfl M.e) fun u N => ?_); clear M a
   refine s1 N (a_0 rfl N.e) fun AC U => ?_; clear N u
   exact n1 (c_2 (c_4 (a_6 (a_6 (c_4 (a_6 (a_8 U (.inl rfl) (a_2 U rfl (.tmp rfl)) (⟨by first | rw [j_7 (by omega) hn (by assumption)] | rw [i_0 (fun i hi => hn i (by omega))], X.ext⟩))))))))
  skip
  rw [Q] at B
  refine b_8 B rfl (d_4 (h_0 (b_1 ?_)))
  have O := B.as [(8, (iv (k : Int))), (7, (iv (xs.length : Int))), (0, v), (1, (Value.func (.func fid) fs cs))] rfl; clear B
  refine a_5 (s1 O (g_1 rfl O.e (evc _ _) (by omega) (by omega)) fun x P => ?_); clear O a
  refine s1 P (a_1 rfl P.e) fun AD f => ?_; clear P x
  refine e_8 ?_
  exact b_1 ⟨k + 1, ⟨f.as _ rfl, X, by omega, (fun i hi => by rcases Nat.lt_succ_iff_lt_or_eq.1 hi with h | h; exact hn i h; subst h; assumption)⟩, by omega⟩
 skip
 rw [decide_eq_false Y] at A
 refine b_8 A rfl (h_6 (b_5 (b_5 (f_9 (b_1 (m2 (s1 A (a_0 rfl (evc _ _)) fun AE V => ?_))))))); clear A Z
 exact n1 (c_2 (a_8 V (.inl rfl) (a_2 V rfl (.tmp rfl)) (⟨by first | rw [j_7 (by omega) hn (by assumption)] | rw [i_0 (fun i hi => hn i (by omega))], C.ext⟩)))
theorem contf_read (xs : List (Int × Int)) (v : Value) (fid : Nat) (fs cs : Array Value) (p : Nat → Bool) (w : World) (hv : SlAt w v 2 xs.length (pairs xs)) (hlen : xs.length ≤ 1000000) (hf : Asks Try.prog w fid fs cs xs.length (fun i => (Value.agg #[(iv ((xs.getD i (0, 0)).1)), (iv ((xs.getD i (0, 0)).2))])) p) :
  Calls Try.prog 106 #[v, (Value.func (.func fid) fs cs)] w (Ret fun v w' => v = .bool ((List.range xs.length).any p) ∧ Ext NoB w w') := by
 refine b_0 Try.func106 rfl fun K B => ?_
 replace B : Fr 9 [] [(0, v), (1, (Value.func (.func fid) fs cs))] K := B
 have D : Sep NoB w w [(sl v 2 xs.length (pairs xs))] := f_1 ⟨rfl, hv, trivial⟩
 refine m2 (s1 B (a_0 rfl (evc _ _)) fun M F => ?_); clear B K
 refine n4 (s1 F (a_1 rfl F.e) fun N G => ?_); clear F M
 refine s1 G (a_1 rfl G.e) fun O C => ?_; clear G N
 refine s2 C (b_2 rfl en_117 (ev2 C.e C.e) (indexf_read xs _ _ _ _ p _ (D.ok 0 _ rfl) hlen (hf.step D.ext))) ?_
 rintro P _ R ⟨rfl, I⟩ H; have J := D.step I; clear I C D O
 refine s1 H (x_4 rfl H.e (evc _ _)) fun L A => ?_; clear H P
 refine s1 A (a_0 rfl A.e) fun Q E => ?_; clear A L
 exact n1 (c_2 (a_8 E (.inl rfl) (a_2 E rfl (.tmp rfl)) (⟨congrArg Value.bool (r_4 p xs.length), J.ext⟩)))
theorem clo_read (I J : Int) (b fid : Nat) (fs cs : Array Value) (q : Bool) (w : World) (hb : (blk b 141 [.func (.func fid) fs cs]).p w) (hen : ∀ args W, (callFunc fid args).run Try.prog W = .ok (.enter fid args) W) (hf : ∀ W, Ext NoB w W → Calls Try.prog fid (fs ++ #[(Value.agg #[(iv I), (iv J)])] ++ cs) W (Ret fun v w' => v = .bool q ∧ Ext NoB W w')) :
  Calls Try.prog 107 #[(Value.agg #[(iv I), (iv J)]), (bptr b 0)] w (Ret fun v w' => v = .bool (!q) ∧ Ext NoB w w') := by
 refine b_0 Try.func107 rfl fun O B => ?_
 replace B : Fr 8 [] [(0, (Value.agg #[(iv I), (iv J)])), (1, (bptr b 0))] O := B
 have L : Sep NoB w w [(rob b 141 [(Value.func (.func fid) fs cs)])] := f_1 ⟨rfl, hb, trivial⟩
 refine m2 (s2 B (f_2 L rfl B.e (cs := [(iv I), (iv J)]) rfl) ?_)
 rintro S _ Z ⟨Y, rfl, C⟩ K; clear B L O
 refine s1 K (a_0 rfl (evc _ _)) fun T G => ?_; clear K S
 refine n4 (s1 G (a_4 rfl ty_141 G.e (C.rk 1 rfl) rfl) fun U H => ?_); clear G T
 refine s1 H (c_5 rfl ty_98 (H.ev rfl) (C.bk 0 rfl) (l := [(iv I), (iv J)]) rfl rfl) fun P A => ?_; clear H U
 refine s2 A (j_8 rfl (A.ev rfl) hen (ev1 A.e) (hf _ C.ext)) ?_
 rintro Q _ X ⟨rfl, M⟩ D; have N := C.step M; clear A C P
 refine s1 D (f_7 rfl D.e) fun R E => ?_; clear D Q
 refine s1 E (a_0 rfl E.e) fun V F => ?_; clear E R
 exact n1 (c_2 (a_8 F (.inl rfl) (a_2 F rfl (.tmp rfl)) (⟨rfl, N.ext⟩)))
theorem all_read (xs : List (Int × Int)) (v : Value) (fid : Nat) (fs cs : Array Value) (p : Nat → Bool) (w : World) (hv : SlAt w v 2 xs.length (pairs xs)) (hlen : xs.length ≤ 1000000) (hf : Asks Try.prog w fid fs cs xs.length (fun i => (Value.agg #[(iv ((xs.getD i (0, 0)).1)), (iv ((xs.getD i (0, 0)).2))])) p) :
  Calls Try.prog 84 #[v, (Value.func (.func fid) fs cs)] w (Ret fun v w' => v = .bool ((List.range xs.length).all p) ∧ Ext NoB w w') := by
 refine b_0 Try.func84 rfl fun M B => ?_
 replace B : Fr 9 [] [(0, v), (1, (Value.func (.func fid) fs cs))] M := B
 have K : Sep NoB w w [(sl v 2 xs.length (pairs xs))] := f_1 ⟨rfl, hv, trivial⟩
 refine m2 (s2 B (f_2 K rfl B.e (cs := [(Value.func (.func fid) fs cs)]) rfl) ?_)
 rintro Q _ X ⟨T, rfl, C⟩ J; clear B K M
 refine s1 J (a_0 rfl (evc _ _)) fun R G => ?_; clear J Q
 refine n4 (s1 G (a_1 rfl G.e) fun S H => ?_); clear G R
 refine s1 H (h_1 rfl ev0 (ev1 H.e)) fun N A => ?_; clear H S
 refine s2 A (b_2 rfl en_106 (ev2 A.e A.e) (contf_read xs _ 107 #[] #[(bptr T 0)] (fun i => !p i) _ (C.ok 1 _ rfl) hlen ⟨en_107, fun i hi W hW => clo_read _ _ _ _ _ _ (p i) W ((C.step hW).bk 0 rfl) hf.1 (fun W' hW' => hf.2 i hi W' (C.ext.trans (hW.trans hW')))⟩)) ?_
 rintro O _ V ⟨rfl, I⟩ D; have L := C.step I; clear I A C N
 refine s1 D (f_7 rfl D.e) fun P E => ?_; clear D O
 refine s1 E (a_0 rfl E.e) fun U F => ?_; clear E P
 exact n1 (c_2 (a_8 F (.inl rfl) (a_2 F rfl (.tmp rfl)) (⟨congrArg Value.bool (any_not p xs.length), L.ext⟩)))
theorem indexf_int (xs : List Int) (v : Value) (fid : Nat) (fs cs : Array Value) (p : Nat → Bool) (w : World) (hv : SlAt w v 1 xs.length (ints xs)) (hlen : xs.length ≤ 1000000) (hf : Asks Try.prog w fid fs cs xs.length (fun i => (iv (xs.getD i 0))) p) :
  Calls Try.prog 115 #[v, (Value.func (.func fid) fs cs)] w (Ret fun v w' => v = .int .i64 (fidx p xs.length) ∧ Ext NoB w w') := by
 refine b_0 Try.func115 rfl fun j R => ?_
 replace R : Fr 19 [] [(0, v), (1, (Value.func (.func fid) fs cs))] j := R
 have W : Sep NoB w w [(sl v 1 xs.length (ints xs))] := f_1 ⟨rfl, hv, trivial⟩
 refine m2 (s1 R (a_0 rfl (evc _ _)) fun y S => ?_); clear R j
 refine n2 (m2 (s1 S (a_1 rfl S.e) fun z T => ?_)); clear S y
 refine s1 T (e_0 rfl n_0 T.e (W.ok 0 _ rfl)) fun a5 b => ?_; clear T z
 refine s1 b (a_1 rfl (evc _ _)) fun a7 c => ?_; clear b a5
 refine n1 (c_6 ?_)
 have d := c.as [(8, (iv 0)), (7, (iv (xs.length : Int))), (0, v), (1, (Value.func (.func fid) fs cs))] rfl; clear c
 refine h_7 (G := Nat) (fun (k : Nat) a_ w_ => Fr 19 [] [(8, (iv (k : Int))), (7, (iv (xs.length : Int))), (0, v), (1, (Value.func (.func fid) fs cs))] a_ ∧ Sep NoB w w_ [(sl v 1 xs.length (ints xs))] ∧ (k ≤ xs.length) ∧ (∀ i, i < k → p i = false)) (fun k => xs.length - k) 0 ⟨d.as _ rfl, W, by omega, by omega⟩ ?_
 clear d W a7
 rintro k l AF ⟨D, C, hk, hn⟩
 refine m2 (s1 D (g_2 rfl D.e D.e) fun Z A => ?_); clear D l
 refine n2 ?_
 by_cases Y : (k : Int) < (xs.length : Int)
 ·skip
  rw [decide_eq_true Y] at A
  refine c_0 A rfl (d_4 (b_1 (b_9 (c_6 (m2 (s1 A (a_1 rfl A.e) fun m H => ?_)))))); clear A Z
  refine s1 H (a_0 rfl H.e) fun n I => ?_; clear H m
  refine n4 (s1 I (a_1 rfl I.e) fun o J => ?_); clear I n
  refine s1 J (a_1 rfl J.e) fun q K => ?_; clear J o
  refine s1 K (a_1 rfl K.e) fun r E => ?_; clear K q
  refine s1 E (b_4 rfl n_0 ty_3 E.e (i := k) E.e (C.ok 0 _ rfl) (by decide) (by omega)) fun s L => ?_; clear E r
  refine s1 L (d_0 rfl ty_3 L.e (C.ok 0 _ rfl) (ints_at (by omega))) fun t F => ?_; clear L s
  refine s2 F (j_8 rfl (F.ev rfl) hf.1 (ev1 F.e) (hf.2 k (by omega) _ C.ext)) ?_
  rintro a _ AG ⟨rfl, g⟩ B; have X := C.step g; clear F C t
  refine n1 ?_
  rcases Bool.eq_false_or_eq_true (p k) with Q | Q
  ·skip
   rw [Q] at B
   refine c_0 B rfl (b_9 ?_)
   have M := B.as [(5, (iv (k : Int)))] rfl; clear B
   refine a_5 (s1 M (a_1 rfl M.e) fun u N => ?_); clear M a
   refine s1 N (a_0 rfl N.e) fun AC U => ?_; clear N u
   exact n1 (c_2 (c_4 (a_6 (a_6 (c_4 (a_6 (a_8 U (.inl rfl) (a_2 U rfl (.tmp rfl)) (⟨by first | rw [j_7 (by omega) hn (by assumption)] | rw [i_0 (fun i hi => hn i (by omega))], X.ext⟩))))))))
  skip
  rw [Q] at B
  refine b_8 B rfl (d_4 (h_0 (b_1 ?_)))
  have O := B.as [(8, (iv (k : Int))), (7, (iv (xs.length : Int))), (0, v), (1, (Value.func (.func fid) fs cs))] rfl; clear B
  refine a_5 (s1 O (g_1 rfl O.e (evc _ _) (by omega) (by omega)) fun x P => ?_); clear O a
  refine s1 P (a_1 rfl P.e) fun AD f => ?_; clear P x
  refine e_8 ?_
  exact b_1 ⟨k + 1, ⟨f.as _ rfl, X, by omega, (fun i hi => by rcases Nat.lt_succ_iff_lt_or_eq.1 hi with h | h; exact hn i h; subst h; assumption)⟩, by omega⟩
 skip
 rw [decide_eq_false Y] at A
 refine b_8 A rfl (h_6 (b_5 (b_5 (f_9 (b_1 (m2 (s1 A (a_0 rfl (evc _ _)) fun AE V => ?_))))))); clear A Z
 exact n1 (c_2 (a_8 V (.inl rfl) (a_2 V rfl (.tmp rfl)) (⟨by first | rw [j_7 (by omega) hn (by assumption)] | rw [i_0 (fun i hi => hn i (by omega))], C.ext⟩)))
theorem contf_int (xs : List Int) (v : Value) (fid : Nat) (fs cs : Array Value) (p : Nat → Bool) (w : World) (hv : SlAt w v 1 xs.length (ints xs)) (hlen : xs.length ≤ 1000000) (hf : Asks Try.prog w fid fs cs xs.length (fun i => (iv (xs.getD i 0))) p) :
  Calls Try.prog 99 #[v, (Value.func (.func fid) fs cs)] w (Ret fun v w' => v = .bool ((List.range xs.length).any p) ∧ Ext NoB w w') := by
 refine b_0 Try.func99 rfl fun K B => ?_
 replace B : Fr 9 [] [(0, v), (1, (Value.func (.func fid) fs cs))] K := B
 have D : Sep NoB w w [(sl v 1 xs.length (ints xs))] := f_1 ⟨rfl, hv, trivial⟩
 refine m2 (s1 B (a_0 rfl (evc _ _)) fun M F => ?_); clear B K
 refine n4 (s1 F (a_1 rfl F.e) fun N G => ?_); clear F M
 refine s1 G (a_1 rfl G.e) fun O C => ?_; clear G N
 refine s2 C (b_2 rfl en_115 (ev2 C.e C.e) (indexf_int xs _ _ _ _ p _ (D.ok 0 _ rfl) hlen (hf.step D.ext))) ?_
 rintro P _ R ⟨rfl, I⟩ H; have J := D.step I; clear I C D O
 refine s1 H (x_4 rfl H.e (evc _ _)) fun L A => ?_; clear H P
 refine s1 A (a_0 rfl A.e) fun Q E => ?_; clear A L
 exact n1 (c_2 (a_8 E (.inl rfl) (a_2 E rfl (.tmp rfl)) (⟨congrArg Value.bool (r_4 p xs.length), J.ext⟩)))
theorem clo_int (x : Int) (b fid : Nat) (fs cs : Array Value) (q : Bool) (w : World) (hb : (blk b 112 [.func (.func fid) fs cs]).p w) (hen : ∀ args W, (callFunc fid args).run Try.prog W = .ok (.enter fid args) W) (hf : ∀ W, Ext NoB w W → Calls Try.prog fid (fs ++ #[(iv x)] ++ cs) W (Ret fun v w' => v = .bool q ∧ Ext NoB W w')) :
  Calls Try.prog 100 #[(iv x), (bptr b 0)] w (Ret fun v w' => v = .bool (!q) ∧ Ext NoB w w') := by
 refine b_0 Try.func100 rfl fun K B => ?_
 replace B : Fr 8 [] [(0, (iv x)), (1, (bptr b 0))] K := B
 have D : Sep NoB w w [(rob b 112 [(Value.func (.func fid) fs cs)])] := f_1 ⟨rfl, hb, trivial⟩
 refine m2 (s1 B (a_0 rfl (evc _ _)) fun M F => ?_); clear B K
 refine n4 (s1 F (a_4 rfl ty_112 F.e (D.rk 0 rfl) rfl) fun N G => ?_); clear F M
 refine s1 G (a_1 rfl G.e) fun O C => ?_; clear G N
 refine s2 C (j_8 rfl (C.ev rfl) hen (ev1 C.e) (hf _ D.ext)) ?_
 rintro P _ R ⟨rfl, I⟩ H; have J := D.step I; clear C D O
 refine s1 H (f_7 rfl H.e) fun L A => ?_; clear H P
 refine s1 A (a_0 rfl A.e) fun Q E => ?_; clear A L
 exact n1 (c_2 (a_8 E (.inl rfl) (a_2 E rfl (.tmp rfl)) (⟨rfl, J.ext⟩)))
theorem all_int (xs : List Int) (v : Value) (fid : Nat) (fs cs : Array Value) (p : Nat → Bool) (w : World) (hv : SlAt w v 1 xs.length (ints xs)) (hlen : xs.length ≤ 1000000) (hf : Asks Try.prog w fid fs cs xs.length (fun i => (iv (xs.getD i 0))) p) :
  Calls Try.prog 69 #[v, (Value.func (.func fid) fs cs)] w (Ret fun v w' => v = .bool ((List.range xs.length).all p) ∧ Ext NoB w w') := by
 refine b_0 Try.func69 rfl fun M B => ?_
 replace B : Fr 9 [] [(0, v), (1, (Value.func (.func fid) fs cs))] M := B
 have K : Sep NoB w w [(sl v 1 xs.length (ints xs))] := f_1 ⟨rfl, hv, trivial⟩
 refine m2 (s2 B (f_2 K rfl B.e (cs := [(Value.func (.func fid) fs cs)]) rfl) ?_)
 rintro Q _ X ⟨T, rfl, C⟩ J; clear B K M
 refine s1 J (a_0 rfl (evc _ _)) fun R G => ?_; clear J Q
 refine n4 (s1 G (a_1 rfl G.e) fun S H => ?_); clear G R
 refine s1 H (h_1 rfl ev0 (ev1 H.e)) fun N A => ?_; clear H S
 refine s2 A (b_2 rfl en_99 (ev2 A.e A.e) (contf_int xs _ 100 #[] #[(bptr T 0)] (fun i => !p i) _ (C.ok 1 _ rfl) hlen ⟨en_100, fun i hi W hW => clo_int _ _ _ _ _ (p i) W ((C.step hW).bk 0 rfl) hf.1 (fun W' hW' => hf.2 i hi W' (C.ext.trans (hW.trans hW')))⟩)) ?_
 rintro O _ V ⟨rfl, I⟩ D; have L := C.step I; clear I A C N
 refine s1 D (f_7 rfl D.e) fun P E => ?_; clear D O
 refine s1 E (a_0 rfl E.e) fun U F => ?_; clear E P
 exact n1 (c_2 (a_8 F (.inl rfl) (a_2 F rfl (.tmp rfl)) (⟨congrArg Value.bool (any_not p xs.length), L.ext⟩)))
theorem indexf_rng (xs : List (Int × Int)) (v : Value) (fid : Nat) (fs cs : Array Value) (p : Nat → Bool) (w : World) (hv : SlAt w v 2 xs.length (pairs xs)) (hlen : xs.length ≤ 1000000) (hf : Asks Try.prog w fid fs cs xs.length (fun i => (Value.agg #[(iv ((xs.getD i (0, 0)).1)), (iv ((xs.getD i (0, 0)).2))])) p) :
  Calls Try.prog 118 #[v, (Value.func (.func fid) fs cs)] w (Ret fun v w' => v = .int .i64 (fidx p xs.length) ∧ Ext NoB w w') := by
 refine b_0 Try.func118 rfl fun j R => ?_
 replace R : Fr 19 [] [(0, v), (1, (Value.func (.func fid) fs cs))] j := R
 have W : Sep NoB w w [(sl v 2 xs.length (pairs xs))] := f_1 ⟨rfl, hv, trivial⟩
 refine m2 (s1 R (a_0 rfl (evc _ _)) fun y S => ?_); clear R j
 refine n2 (m2 (s1 S (a_1 rfl S.e) fun z T => ?_)); clear S y
 refine s1 T (e_0 rfl un_50 T.e (W.ok 0 _ rfl)) fun a5 b => ?_; clear T z
 refine s1 b (a_1 rfl (evc _ _)) fun a7 c => ?_; clear b a5
 refine n1 (c_6 ?_)
 have d := c.as [(8, (iv 0)), (7, (iv (xs.length : Int))), (0, v), (1, (Value.func (.func fid) fs cs))] rfl; clear c
 refine h_7 (G := Nat) (fun (k : Nat) a_ w_ => Fr 19 [] [(8, (iv (k : Int))), (7, (iv (xs.length : Int))), (0, v), (1, (Value.func (.func fid) fs cs))] a_ ∧ Sep NoB w w_ [(sl v 2 xs.length (pairs xs))] ∧ (k ≤ xs.length) ∧ (∀ i, i < k → p i = false)) (fun k => xs.length - k) 0 ⟨d.as _ rfl, W, by omega, by omega⟩ ?_
 clear d W a7
 rintro k l AF ⟨D, C, hk, hn⟩
 refine m2 (s1 D (g_2 rfl D.e D.e) fun Z A => ?_); clear D l
 refine n2 ?_
 by_cases Y : (k : Int) < (xs.length : Int)
 ·skip
  rw [decide_eq_true Y] at A
  refine c_0 A rfl (d_4 (b_1 (b_9 (c_6 (m2 (s1 A (a_1 rfl A.e) fun m H => ?_)))))); clear A Z
  refine s1 H (a_0 rfl H.e) fun n I => ?_; clear H m
  refine n4 (s1 I (a_1 rfl I.e) fun o J => ?_); clear I n
  refine s1 J (a_1 rfl J.e) fun q K => ?_; clear J o
  refine s1 K (a_1 rfl K.e) fun r E => ?_; clear K q
  refine s1 E (b_4 rfl un_50 f_5 E.e (i := k) E.e (C.ok 0 _ rfl) (by decide) (by omega)) fun s L => ?_; clear E r
  refine s1 L (e_6 rfl f_5 L.e (C.ok 0 _ rfl) (h_4 (by omega)) rfl (by decide)) fun t F => ?_; clear L s
  refine s2 F (j_8 rfl (F.ev rfl) hf.1 (ev1 F.e) (hf.2 k (by omega) _ C.ext)) ?_
  rintro a _ AG ⟨rfl, g⟩ B; have X := C.step g; clear F C t
  refine n1 ?_
  rcases Bool.eq_false_or_eq_true (p k) with Q | Q
  ·skip
   rw [Q] at B
   refine c_0 B rfl (b_9 ?_)
   have M := B.as [(5, (iv (k : Int)))] rfl; clear B
   refine a_5 (s1 M (a_1 rfl M.e) fun u N => ?_); clear M a
   refine s1 N (a_0 rfl N.e) fun AC U => ?_; clear N u
   exact n1 (c_2 (c_4 (a_6 (a_6 (c_4 (a_6 (a_8 U (.inl rfl) (a_2 U rfl (.tmp rfl)) (⟨by first | rw [j_7 (by omega) hn (by assumption)] | rw [i_0 (fun i hi => hn i (by omega))], X.ext⟩))))))))
  skip
  rw [Q] at B
  refine b_8 B rfl (d_4 (h_0 (b_1 ?_)))
  have O := B.as [(8, (iv (k : Int))), (7, (iv (xs.length : Int))), (0, v), (1, (Value.func (.func fid) fs cs))] rfl; clear B
  refine a_5 (s1 O (g_1 rfl O.e (evc _ _) (by omega) (by omega)) fun x P => ?_); clear O a
  refine s1 P (a_1 rfl P.e) fun AD f => ?_; clear P x
  refine e_8 ?_
  exact b_1 ⟨k + 1, ⟨f.as _ rfl, X, by omega, (fun i hi => by rcases Nat.lt_succ_iff_lt_or_eq.1 hi with h | h; exact hn i h; subst h; assumption)⟩, by omega⟩
 skip
 rw [decide_eq_false Y] at A
 refine b_8 A rfl (h_6 (b_5 (b_5 (f_9 (b_1 (m2 (s1 A (a_0 rfl (evc _ _)) fun AE V => ?_))))))); clear A Z
 exact n1 (c_2 (a_8 V (.inl rfl) (a_2 V rfl (.tmp rfl)) (⟨by first | rw [j_7 (by omega) hn (by assumption)] | rw [i_0 (fun i hi => hn i (by omega))], C.ext⟩)))
theorem contf_rng (xs : List (Int × Int)) (v : Value) (fid : Nat) (fs cs : Array Value) (p : Nat → Bool) (w : World) (hv : SlAt w v 2 xs.length (pairs xs)) (hlen : xs.length ≤ 1000000) (hf : Asks Try.prog w fid fs cs xs.length (fun i => (Value.agg #[(iv ((xs.getD i (0, 0)).1)), (iv ((xs.getD i (0, 0)).2))])) p) :
  Calls Try.prog 108 #[v, (Value.func (.func fid) fs cs)] w (Ret fun v w' => v = .bool ((List.range xs.length).any p) ∧ Ext NoB w w') := by
 refine b_0 Try.func108 rfl fun K B => ?_
 replace B : Fr 9 [] [(0, v), (1, (Value.func (.func fid) fs cs))] K := B
 have D : Sep NoB w w [(sl v 2 xs.length (pairs xs))] := f_1 ⟨rfl, hv, trivial⟩
 refine m2 (s1 B (a_0 rfl (evc _ _)) fun M F => ?_); clear B K
 refine n4 (s1 F (a_1 rfl F.e) fun N G => ?_); clear F M
 refine s1 G (a_1 rfl G.e) fun O C => ?_; clear G N
 refine s2 C (b_2 rfl en_118 (ev2 C.e C.e) (indexf_rng xs _ _ _ _ p _ (D.ok 0 _ rfl) hlen (hf.step D.ext))) ?_
 rintro P _ R ⟨rfl, I⟩ H; have J := D.step I; clear I C D O
 refine s1 H (x_4 rfl H.e (evc _ _)) fun L A => ?_; clear H P
 refine s1 A (a_0 rfl A.e) fun Q E => ?_; clear A L
 exact n1 (c_2 (a_8 E (.inl rfl) (a_2 E rfl (.tmp rfl)) (⟨congrArg Value.bool (r_4 p xs.length), J.ext⟩)))
theorem indexf_tab (xs : List TabD) (lr lb : Nat → Value) (v : Value) (fid : Nat) (fs cs : Array Value) (p : Nat → Bool) (w : World) (hv : SlAt w v 5 xs.length (m_1 lr lb xs)) (hlen : xs.length ≤ 1000000) (hf : Asks Try.prog w fid fs cs xs.length (fun i => (Value.agg #[(iv ((xs.getD i tab0).frm)), (iv ((xs.getD i tab0).dst)), (lr i), (lb i), (iv ((xs.getD i tab0).err))])) p) :
  Calls Try.prog 109 #[v, (Value.func (.func fid) fs cs)] w (Ret fun v w' => v = .int .i64 (fidx p xs.length) ∧ Ext NoB w w') := by
 refine b_0 Try.func109 rfl fun j R => ?_
 replace R : Fr 19 [] [(0, v), (1, (Value.func (.func fid) fs cs))] j := R
 have W : Sep NoB w w [(sl v 5 xs.length (m_1 lr lb xs))] := f_1 ⟨rfl, hv, trivial⟩
 refine m2 (s1 R (a_0 rfl (evc _ _)) fun y S => ?_); clear R j
 refine n2 (m2 (s1 S (a_1 rfl S.e) fun z T => ?_)); clear S y
 refine s1 T (e_0 rfl y_2 T.e (W.ok 0 _ rfl)) fun a5 b => ?_; clear T z
 refine s1 b (a_1 rfl (evc _ _)) fun a7 c => ?_; clear b a5
 refine n1 (c_6 ?_)
 have d := c.as [(8, (iv 0)), (7, (iv (xs.length : Int))), (0, v), (1, (Value.func (.func fid) fs cs))] rfl; clear c
 refine h_7 (G := Nat) (fun (k : Nat) a_ w_ => Fr 19 [] [(8, (iv (k : Int))), (7, (iv (xs.length : Int))), (0, v), (1, (Value.func (.func fid) fs cs))] a_ ∧ Sep NoB w w_ [(sl v 5 xs.length (m_1 lr lb xs))] ∧ (k ≤ xs.length) ∧ (∀ i, i < k → p i = false)) (fun k => xs.length - k) 0 ⟨d.as _ rfl, W, by omega, by omega⟩ ?_
 clear d W a7
 rintro k l AF ⟨D, C, hk, hn⟩
 refine m2 (s1 D (g_2 rfl D.e D.e) fun Z A => ?_); clear D l
 refine n2 ?_
 by_cases Y : (k : Int) < (xs.length : Int)
 ·skip
  rw [decide_eq_true Y] at A
  refine c_0 A rfl (d_4 (b_1 (b_9 (c_6 (m2 (s1 A (a_1 rfl A.e) fun m H => ?_)))))); clear A Z
  refine s1 H (a_0 rfl H.e) fun n I => ?_; clear H m
  refine n4 (s1 I (a_1 rfl I.e) fun o J => ?_); clear I n
  refine s1 J (a_1 rfl J.e) fun q K => ?_; clear J o
  refine s1 K (a_1 rfl K.e) fun r E => ?_; clear K q
  refine s1 E (b_4 rfl y_2 k_9 E.e (i := k) E.e (C.ok 0 _ rfl) (by decide) (by omega)) fun s L => ?_; clear E r
  refine s1 L (e_6 rfl k_9 L.e (C.ok 0 _ rfl) (w_0 (by omega)) rfl (by decide)) fun t F => ?_; clear L s
  refine s2 F (j_8 rfl (F.ev rfl) hf.1 (ev1 F.e) (hf.2 k (by omega) _ C.ext)) ?_
  rintro a _ AG ⟨rfl, g⟩ B; have X := C.step g; clear F C t
  refine n1 ?_
  rcases Bool.eq_false_or_eq_true (p k) with Q | Q
  ·skip
   rw [Q] at B
   refine c_0 B rfl (b_9 ?_)
   have M := B.as [(5, (iv (k : Int)))] rfl; clear B
   refine a_5 (s1 M (a_1 rfl M.e) fun u N => ?_); clear M a
   refine s1 N (a_0 rfl N.e) fun AC U => ?_; clear N u
   exact n1 (c_2 (c_4 (a_6 (a_6 (c_4 (a_6 (a_8 U (.inl rfl) (a_2 U rfl (.tmp rfl)) (⟨by first | rw [j_7 (by omega) hn (by assumption)] | rw [i_0 (fun i hi => hn i (by omega))], X.ext⟩))))))))
  skip
  rw [Q] at B
  refine b_8 B rfl (d_4 (h_0 (b_1 ?_)))
  have O := B.as [(8, (iv (k : Int))), (7, (iv (xs.length : Int))), (0, v), (1, (Value.func (.func fid) fs cs))] rfl; clear B
  refine a_5 (s1 O (g_1 rfl O.e (evc _ _) (by omega) (by omega)) fun x P => ?_); clear O a
  refine s1 P (a_1 rfl P.e) fun AD f => ?_; clear P x
  refine e_8 ?_
  exact b_1 ⟨k + 1, ⟨f.as _ rfl, X, by omega, (fun i hi => by rcases Nat.lt_succ_iff_lt_or_eq.1 hi with h | h; exact hn i h; subst h; assumption)⟩, by omega⟩
 skip
 rw [decide_eq_false Y] at A
 refine b_8 A rfl (h_6 (b_5 (b_5 (f_9 (b_1 (m2 (s1 A (a_0 rfl (evc _ _)) fun AE V => ?_))))))); clear A Z
 exact n1 (c_2 (a_8 V (.inl rfl) (a_2 V rfl (.tmp rfl)) (⟨by first | rw [j_7 (by omega) hn (by assumption)] | rw [i_0 (fun i hi => hn i (by omega))], C.ext⟩)))
theorem contf_tab (xs : List TabD) (lr lb : Nat → Value) (v : Value) (fid : Nat) (fs cs : Array Value) (p : Nat → Bool) (w : World) (hv : SlAt w v 5 xs.length (m_1 lr lb xs)) (hlen : xs.length ≤ 1000000) (hf : Asks Try.prog w fid fs cs xs.length (fun i => (Value.agg #[(iv ((xs.getD i tab0).frm)), (iv ((xs.getD i tab0).dst)), (lr i), (lb i), (iv ((xs.getD i tab0).err))])) p) :
  Calls Try.prog 89 #[v, (Value.func (.func fid) fs cs)] w (Ret fun v w' => v = .bool ((List.range xs.length).any p) ∧ Ext NoB w w') := by
 refine b_0 Try.func89 rfl fun K B => ?_
 replace B : Fr 9 [] [(0, v), (1, (Value.func (.func fid) fs cs))] K := B
 have D : Sep NoB w w [(sl v 5 xs.length (m_1 lr lb xs))] := f_1 ⟨rfl, hv, trivial⟩
 refine m2 (s1 B (a_0 rfl (evc _ _)) fun M F => ?_); clear B K
 refine n4 (s1 F (a_1 rfl F.e) fun N G => ?_); clear F M
 refine s1 G (a_1 rfl G.e) fun O C => ?_; clear G N
 refine s2 C (b_2 rfl en_109 (ev2 C.e C.e) (indexf_tab xs lr lb _ _ _ _ p _ (D.ok 0 _ rfl) hlen (hf.step D.ext))) ?_
 rintro P _ R ⟨rfl, I⟩ H; have J := D.step I; clear I C D O
 refine s1 H (x_4 rfl H.e (evc _ _)) fun L A => ?_; clear H P
 refine s1 A (a_0 rfl A.e) fun Q E => ?_; clear A L
 exact n1 (c_2 (a_8 E (.inl rfl) (a_2 E rfl (.tmp rfl)) (⟨congrArg Value.bool (r_4 p xs.length), J.ext⟩)))
theorem clo_tab (K L : Int) (F G : Value) (a : F.oneCell' = true) (c : G.oneCell' = true) (M : Int) (b fid : Nat) (fs cs : Array Value) (q : Bool) (w : World) (hb : (blk b 127 [.func (.func fid) fs cs]).p w) (hen : ∀ args W, (callFunc fid args).run Try.prog W = .ok (.enter fid args) W) (hf : ∀ W, Ext NoB w W → Calls Try.prog fid (fs ++ #[(Value.agg #[(iv K), (iv L), F, G, (iv M)])] ++ cs) W (Ret fun v w' => v = .bool q ∧ Ext NoB W w')) :
  Calls Try.prog 90 #[(Value.agg #[(iv K), (iv L), F, G, (iv M)]), (bptr b 0)] w (Ret fun v w' => v = .bool (!q) ∧ Ext NoB w w') := by
 refine b_0 Try.func90 rfl fun R B => ?_
 replace B : Fr 8 [] [(0, (Value.agg #[(iv K), (iv L), F, G, (iv M)])), (1, (bptr b 0))] R := B
 have O : Sep NoB w w [(rob b 127 [(Value.func (.func fid) fs cs)])] := f_1 ⟨rfl, hb, trivial⟩
 refine m2 (s2 B (f_2 O rfl B.e (cs := [(iv K), (iv L), F, G, (iv M)]) rfl) ?_)
 rintro V _ g ⟨f, rfl, C⟩ N; clear B O R
 refine s1 N (a_0 rfl (evc _ _)) fun X I => ?_; clear N V
 refine n4 (s1 I (a_4 rfl ty_127 I.e (C.rk 1 rfl) rfl) fun Y J => ?_); clear I X
 refine s1 J (c_5 rfl k_9 (J.ev rfl) (C.bk 0 rfl) (l := [(iv K), (iv L), F, G, (iv M)]) rfl rfl) fun S A => ?_; clear J Y
 refine s2 A (j_8 rfl (A.ev rfl) hen (ev1 A.e) (hf _ C.ext)) ?_
 rintro T _ d ⟨rfl, P⟩ D; have Q := C.step P; clear A C S
 refine s1 D (f_7 rfl D.e) fun U E => ?_; clear D T
 refine s1 E (a_0 rfl E.e) fun Z H => ?_; clear E U
 exact n1 (c_2 (a_8 H (.inl rfl) (a_2 H rfl (.tmp rfl)) (⟨rfl, Q.ext⟩)))
theorem all_tab (xs : List TabD) (lr lb : Nat → Value) (v : Value) (fid : Nat) (fs cs : Array Value) (p : Nat → Bool) (w : World) (hv : SlAt w v 5 xs.length (m_1 lr lb xs)) (hlen : xs.length ≤ 1000000) (hf : Asks Try.prog w fid fs cs xs.length (fun i => (Value.agg #[(iv ((xs.getD i tab0).frm)), (iv ((xs.getD i tab0).dst)), (lr i), (lb i), (iv ((xs.getD i tab0).err))])) p) (hone : ∀ i, i < xs.length → (lr i).oneCell' = true ∧ (lb i).oneCell' = true) :
  Calls Try.prog 61 #[v, (Value.func (.func fid) fs cs)] w (Ret fun v w' => v = .bool ((List.range xs.length).all p) ∧ Ext NoB w w') := by
 refine b_0 Try.func61 rfl fun M B => ?_
 replace B : Fr 9 [] [(0, v), (1, (Value.func (.func fid) fs cs))] M := B
 have K : Sep NoB w w [(sl v 5 xs.length (m_1 lr lb xs))] := f_1 ⟨rfl, hv, trivial⟩
 refine m2 (s2 B (f_2 K rfl B.e (cs := [(Value.func (.func fid) fs cs)]) rfl) ?_)
 rintro Q _ X ⟨T, rfl, C⟩ J; clear B K M
 refine s1 J (a_0 rfl (evc _ _)) fun R G => ?_; clear J Q
 refine n4 (s1 G (a_1 rfl G.e) fun S H => ?_); clear G R
 refine s1 H (h_1 rfl ev0 (ev1 H.e)) fun N A => ?_; clear H S
 refine s2 A (b_2 rfl en_89 (ev2 A.e A.e) (contf_tab xs lr lb _ 90 #[] #[(bptr T 0)] (fun i => !p i) _ (C.ok 1 _ rfl) hlen ⟨en_90, fun i hi W hW => clo_tab _ _ _ _ (hone i hi).1 (hone i hi).2 _ _ _ _ _ (p i) W ((C.step hW).bk 0 rfl) hf.1 (fun W' hW' => hf.2 i hi W' (C.ext.trans (hW.trans hW')))⟩)) ?_
 rintro O _ V ⟨rfl, I⟩ D; have L := C.step I; clear I A C N
 refine s1 D (f_7 rfl D.e) fun P E => ?_; clear D O
 refine s1 E (a_0 rfl E.e) fun U F => ?_; clear E P
 exact n1 (c_2 (a_8 F (.inl rfl) (a_2 F rfl (.tmp rfl)) (⟨congrArg Value.bool (any_not p xs.length), L.ext⟩)))
theorem indexf_mac (xs : List MacD) (lk : Nat → Value) (v : Value) (fid : Nat) (fs cs : Array Value) (p : Nat → Bool) (w : World) (hv : SlAt w v 2 xs.length (p_0 lk xs)) (hlen : xs.length ≤ 1000000) (hf : Asks Try.prog w fid fs cs xs.length (fun i => (Value.agg #[(iv ((xs.getD i mac0).scale)), (lk i)])) p) :
  Calls Try.prog 110 #[v, (Value.func (.func fid) fs cs)] w (Ret fun v w' => v = .int .i64 (fidx p xs.length) ∧ Ext NoB w w') := by
 refine b_0 Try.func110 rfl fun j R => ?_
 replace R : Fr 19 [] [(0, v), (1, (Value.func (.func fid) fs cs))] j := R
 have W : Sep NoB w w [(sl v 2 xs.length (p_0 lk xs))] := f_1 ⟨rfl, hv, trivial⟩
 refine m2 (s1 R (a_0 rfl (evc _ _)) fun y S => ?_); clear R j
 refine n2 (m2 (s1 S (a_1 rfl S.e) fun z T => ?_)); clear S y
 refine s1 T (e_0 rfl aa_3 T.e (W.ok 0 _ rfl)) fun a5 b => ?_; clear T z
 refine s1 b (a_1 rfl (evc _ _)) fun a7 c => ?_; clear b a5
 refine n1 (c_6 ?_)
 have d := c.as [(8, (iv 0)), (7, (iv (xs.length : Int))), (0, v), (1, (Value.func (.func fid) fs cs))] rfl; clear c
 refine h_7 (G := Nat) (fun (k : Nat) a_ w_ => Fr 19 [] [(8, (iv (k : Int))), (7, (iv (xs.length : Int))), (0, v), (1, (Value.func (.func fid) fs cs))] a_ ∧ Sep NoB w w_ [(sl v 2 xs.length (p_0 lk xs))] ∧ (k ≤ xs.length) ∧ (∀ i, i < k → p i = false)) (fun k => xs.length - k) 0 ⟨d.as _ rfl, W, by omega, by omega⟩ ?_
 clear d W a7
 rintro k l AF ⟨D, C, hk, hn⟩
 refine m2 (s1 D (g_2 rfl D.e D.e) fun Z A => ?_); clear D l
 refine n2 ?_
 by_cases Y : (k : Int) < (xs.length : Int)
 ·skip
  rw [decide_eq_true Y] at A
  refine c_0 A rfl (d_4 (b_1 (b_9 (c_6 (m2 (s1 A (a_1 rfl A.e) fun m H => ?_)))))); clear A Z
  refine s1 H (a_0 rfl H.e) fun n I => ?_; clear H m
  refine n4 (s1 I (a_1 rfl I.e) fun o J => ?_); clear I n
  refine s1 J (a_1 rfl J.e) fun q K => ?_; clear J o
  refine s1 K (a_1 rfl K.e) fun r E => ?_; clear K q
  refine s1 E (b_4 rfl aa_3 t_0 E.e (i := k) E.e (C.ok 0 _ rfl) (by decide) (by omega)) fun s L => ?_; clear E r
  refine s1 L (e_6 rfl t_0 L.e (C.ok 0 _ rfl) (macs_all (by omega)) rfl (by decide)) fun t F => ?_; clear L s
  refine s2 F (j_8 rfl (F.ev rfl) hf.1 (ev1 F.e) (hf.2 k (by omega) _ C.ext)) ?_
  rintro a _ AG ⟨rfl, g⟩ B; have X := C.step g; clear F C t
  refine n1 ?_
  rcases Bool.eq_false_or_eq_true (p k) with Q | Q
  ·skip
   rw [Q] at B
   refine c_0 B rfl (b_9 ?_)
   have M := B.as [(5, (iv (k : Int)))] rfl; clear B
   refine a_5 (s1 M (a_1 rfl M.e) fun u N => ?_); clear M a
   refine s1 N (a_0 rfl N.e) fun AC U => ?_; clear N u
   exact n1 (c_2 (c_4 (a_6 (a_6 (c_4 (a_6 (a_8 U (.inl rfl) (a_2 U rfl (.tmp rfl)) (⟨by first | rw [j_7 (by omega) hn (by assumption)] | rw [i_0 (fun i hi => hn i (by omega))], X.ext⟩))))))))
  skip
  rw [Q] at B
  refine b_8 B rfl (d_4 (h_0 (b_1 ?_)))
  have O := B.as [(8, (iv (k : Int))), (7, (iv (xs.length : Int))), (0, v), (1, (Value.func (.func fid) fs cs))] rfl; clear B
  refine a_5 (s1 O (g_1 rfl O.e (evc _ _) (by omega) (by omega)) fun x P => ?_); clear O a
  refine s1 P (a_1 rfl P.e) fun AD f => ?_; clear P x
  refine e_8 ?_
  exact b_1 ⟨k + 1, ⟨f.as _ rfl, X, by omega, (fun i hi => by rcases Nat.lt_succ_iff_lt_or_eq.1 hi with h | h; exact hn i h; subst h; assumption)⟩, by omega⟩
 skip
 rw [decide_eq_false Y] at A
 refine b_8 A rfl (h_6 (b_5 (b_5 (f_9 (b_1 (m2 (s1 A (a_0 rfl (evc _ _)) fun AE V => ?_))))))); clear A Z
 exact n1 (c_2 (a_8 V (.inl rfl) (a_2 V rfl (.tmp rfl)) (⟨by first | rw [j_7 (by omega) hn (by assumption)] | rw [i_0 (fun i hi => hn i (by omega))], C.ext⟩)))
theorem contf_mac (xs : List MacD) (lk : Nat → Value) (v : Value) (fid : Nat) (fs cs : Array Value) (p : Nat → Bool) (w : World) (hv : SlAt w v 2 xs.length (p_0 lk xs)) (hlen : xs.length ≤ 1000000) (hf : Asks Try.prog w fid fs cs xs.length (fun i => (Value.agg #[(iv ((xs.getD i mac0).scale)), (lk i)])) p) :
  Calls Try.prog 91 #[v, (Value.func (.func fid) fs cs)] w (Ret fun v w' => v = .bool ((List.range xs.length).any p) ∧ Ext NoB w w') := by
 refine b_0 Try.func91 rfl fun K B => ?_
 replace B : Fr 9 [] [(0, v), (1, (Value.func (.func fid) fs cs))] K := B
 have D : Sep NoB w w [(sl v 2 xs.length (p_0 lk xs))] := f_1 ⟨rfl, hv, trivial⟩
 refine m2 (s1 B (a_0 rfl (evc _ _)) fun M F => ?_); clear B K
 refine n4 (s1 F (a_1 rfl F.e) fun N G => ?_); clear F M
 refine s1 G (a_1 rfl G.e) fun O C => ?_; clear G N
 refine s2 C (b_2 rfl en_110 (ev2 C.e C.e) (indexf_mac xs lk _ _ _ _ p _ (D.ok 0 _ rfl) hlen (hf.step D.ext))) ?_
 rintro P _ R ⟨rfl, I⟩ H; have J := D.step I; clear I C D O
 refine s1 H (x_4 rfl H.e (evc _ _)) fun L A => ?_; clear H P
 refine s1 A (a_0 rfl A.e) fun Q E => ?_; clear A L
 exact n1 (c_2 (a_8 E (.inl rfl) (a_2 E rfl (.tmp rfl)) (⟨congrArg Value.bool (r_4 p xs.length), J.ext⟩)))
theorem clo_mac (J : Int) (F : Value) (X : F.oneCell' = true) (b fid : Nat) (fs cs : Array Value) (q : Bool) (w : World) (hb : (blk b 129 [.func (.func fid) fs cs]).p w) (hen : ∀ args W, (callFunc fid args).run Try.prog W = .ok (.enter fid args) W) (hf : ∀ W, Ext NoB w W → Calls Try.prog fid (fs ++ #[(Value.agg #[(iv J), F])] ++ cs) W (Ret fun v w' => v = .bool q ∧ Ext NoB W w')) :
  Calls Try.prog 92 #[(Value.agg #[(iv J), F]), (bptr b 0)] w (Ret fun v w' => v = .bool (!q) ∧ Ext NoB w w') := by
 refine b_0 Try.func92 rfl fun O B => ?_
 replace B : Fr 8 [] [(0, (Value.agg #[(iv J), F])), (1, (bptr b 0))] O := B
 have L : Sep NoB w w [(rob b 129 [(Value.func (.func fid) fs cs)])] := f_1 ⟨rfl, hb, trivial⟩
 refine m2 (s2 B (f_2 L rfl B.e (cs := [(iv J), F]) rfl) ?_)
 rintro S _ a ⟨Z, rfl, C⟩ K; clear B L O
 refine s1 K (a_0 rfl (evc _ _)) fun T H => ?_; clear K S
 refine n4 (s1 H (a_4 rfl ty_129 H.e (C.rk 1 rfl) rfl) fun U I => ?_); clear H T
 refine s1 I (c_5 rfl t_0 (I.ev rfl) (C.bk 0 rfl) (l := [(iv J), F]) rfl rfl) fun P A => ?_; clear I U
 refine s2 A (j_8 rfl (A.ev rfl) hen (ev1 A.e) (hf _ C.ext)) ?_
 rintro Q _ Y ⟨rfl, M⟩ D; have N := C.step M; clear A C P
 refine s1 D (f_7 rfl D.e) fun R E => ?_; clear D Q
 refine s1 E (a_0 rfl E.e) fun V G => ?_; clear E R
 exact n1 (c_2 (a_8 G (.inl rfl) (a_2 G rfl (.tmp rfl)) (⟨rfl, N.ext⟩)))
theorem all_mac (xs : List MacD) (lk : Nat → Value) (v : Value) (fid : Nat) (fs cs : Array Value) (p : Nat → Bool) (w : World) (hv : SlAt w v 2 xs.length (p_0 lk xs)) (hlen : xs.length ≤ 1000000) (hf : Asks Try.prog w fid fs cs xs.length (fun i => (Value.agg #[(iv ((xs.getD i mac0).scale)), (lk i)])) p) (hone : ∀ i, i < xs.length → (lk i).oneCell' = true) :
  Calls Try.prog 63 #[v, (Value.func (.func fid) fs cs)] w (Ret fun v w' => v = .bool ((List.range xs.length).all p) ∧ Ext NoB w w') := by
 refine b_0 Try.func63 rfl fun M B => ?_
 replace B : Fr 9 [] [(0, v), (1, (Value.func (.func fid) fs cs))] M := B
 have K : Sep NoB w w [(sl v 2 xs.length (p_0 lk xs))] := f_1 ⟨rfl, hv, trivial⟩
 refine m2 (s2 B (f_2 K rfl B.e (cs := [(Value.func (.func fid) fs cs)]) rfl) ?_)
 rintro Q _ X ⟨T, rfl, C⟩ J; clear B K M
 refine s1 J (a_0 rfl (evc _ _)) fun R G => ?_; clear J Q
 refine n4 (s1 G (a_1 rfl G.e) fun S H => ?_); clear G R
 refine s1 H (h_1 rfl ev0 (ev1 H.e)) fun N A => ?_; clear H S
 refine s2 A (b_2 rfl en_91 (ev2 A.e A.e) (contf_mac xs lk _ 92 #[] #[(bptr T 0)] (fun i => !p i) _ (C.ok 1 _ rfl) hlen ⟨en_92, fun i hi W hW => clo_mac _ _ (hone i hi) _ _ _ _ (p i) W ((C.step hW).bk 0 rfl) hf.1 (fun W' hW' => hf.2 i hi W' (C.ext.trans (hW.trans hW')))⟩)) ?_
 rintro O _ V ⟨rfl, I⟩ D; have L := C.step I; clear I A C N
 refine s1 D (f_7 rfl D.e) fun P E => ?_; clear D O
 refine s1 E (a_0 rfl E.e) fun U F => ?_; clear E P
 exact n1 (c_2 (a_8 F (.inl rfl) (a_2 F rfl (.tmp rfl)) (⟨congrArg Value.bool (any_not p xs.length), L.ext⟩)))
end Go.Proofs.Ytohgladndklciaa

namespace Go.Proofs.Ytohgladndklciaa
open Go.RowKit Go.Shelf Go.Eng Go.Hard
theorem en_123 : ∀ args w, (callFunc 123 args).run Try.prog w = .ok (.enter 123 args) w := enters_of Try.func123 (by kernel_rfl) rfl
theorem n_9 : fldK Try.prog 46 3 = some 3 := by kernel_rfl
theorem w_1 : tyK Try.prog 44 = some (false, 1) := by kernel_rfl
theorem index_ok (xs : List Int) (x : Int) (v : Value) (w : World) (hv : SlAt w v 1 xs.length (ints xs)) (hlen : xs.length ≤ 1000000) :
  Calls Try.prog 123 #[v, (iv x)] w (Ret fun v w' => v = .int .i64 (fidx (fun i => decide (x = xs.getD i 0)) xs.length) ∧ Ext NoB w w') := by
 refine b_0 Try.func123 rfl fun f Q => ?_
 replace Q : Fr 19 [] [(0, v), (1, (iv x))] f := Q
 have V : Sep NoB w w [(sl v 1 xs.length (ints xs))] := f_1 ⟨rfl, hv, trivial⟩
 refine m2 (s1 Q (a_0 rfl (evc _ _)) fun t R => ?_); clear Q f
 refine n2 (m2 (s1 R (a_1 rfl R.e) fun u T => ?_)); clear R t
 refine s1 T (e_0 rfl n_0 T.e (V.sk 0 rfl)) fun y a => ?_; clear T u
 refine s1 a (a_1 rfl (evc _ _)) fun z b => ?_; clear a y
 refine n1 (c_6 ?_)
 have c := b.as [(8, (iv 0)), (7, (iv (xs.length : Int))), (0, v), (1, (iv x))] rfl; clear b
 refine h_7 (G := Nat) (fun (k : Nat) a_ w_ => Fr 19 [] [(8, (iv (k : Int))), (7, (iv (xs.length : Int))), (0, v), (1, (iv x))] a_ ∧ Sep NoB w w_ [(sl v 1 xs.length (ints xs))] ∧ (k ≤ xs.length) ∧ (∀ i, i < k → decide (x = xs.getD i 0) = false)) (fun k => xs.length - k) 0 ⟨c.as _ rfl, V, by omega, by omega⟩ ?_
 clear c V z
 rintro k g AD ⟨D, C, hk, hn⟩
 refine m2 (s1 D (g_2 rfl D.e D.e) fun Y A => ?_); clear D g
 refine n2 ?_
 by_cases W : (k : Int) < (xs.length : Int)
 ·skip
  rw [decide_eq_true W] at A
  refine c_0 A rfl (d_4 (b_1 (b_9 (c_6 (m2 (s1 A (a_1 rfl A.e) fun j H => ?_)))))); clear A Y
  refine s1 H (a_0 rfl H.e) fun l I => ?_; clear H j
  refine n4 (s1 I (a_1 rfl I.e) fun m J => ?_); clear I l
  refine s1 J (a_1 rfl J.e) fun n K => ?_; clear J m
  refine s1 K (a_1 rfl K.e) fun o E => ?_; clear K n
  refine s1 E (b_4 rfl n_0 ty_3 E.e (i := k) E.e (C.sk 0 rfl) (by decide) (by omega)) fun p L => ?_; clear E o
  refine s1 L (d_0 rfl ty_3 L.e (C.sk 0 rfl) (ints_at (by omega))) fun q F => ?_; clear L p
  refine s1 F (o_2 rfl F.e F.e) fun Z B => ?_; clear F q
  refine n1 ?_
  by_cases X : x = (xs.getD k 0)
  ·skip
   rw [decide_eq_true X] at B
   refine c_0 B rfl (b_9 ?_)
   have M := B.as [(5, (iv (k : Int)))] rfl; clear B
   refine a_5 (s1 M (a_1 rfl M.e) fun r N => ?_); clear M Z
   refine s1 N (a_0 rfl N.e) fun AA S => ?_; clear N r
   exact n1 (c_2 (c_4 (a_6 (a_6 (c_4 (a_6 (a_8 S (.inl rfl) (a_2 S rfl (.tmp rfl)) (⟨by first | rw [j_7 (by omega) hn (decide_eq_true (by assumption))] | rw [i_0 (fun i hi => hn i (by omega))], C.ext⟩))))))))
  skip
  rw [decide_eq_false X] at B
  refine b_8 B rfl (d_4 (h_0 (b_1 ?_)))
  have O := B.as [(8, (iv (k : Int))), (7, (iv (xs.length : Int))), (0, v), (1, (iv x))] rfl; clear B
  refine a_5 (s1 O (g_1 rfl O.e (evc _ _) (by omega) (by omega)) fun s P => ?_); clear O Z
  refine s1 P (a_1 rfl P.e) fun AB d => ?_; clear P s
  refine e_8 ?_
  exact b_1 ⟨k + 1, ⟨d.as _ rfl, C, by omega, (fun i hi => by rcases Nat.lt_succ_iff_lt_or_eq.1 hi with h | h; exact hn i h; subst h; exact decide_eq_false (by assumption))⟩, by omega⟩
 skip
 rw [decide_eq_false W] at A
 refine b_8 A rfl (h_6 (b_5 (b_5 (f_9 (b_1 (m2 (s1 A (a_0 rfl (evc _ _)) fun AC U => ?_))))))); clear A Y
 exact n1 (c_2 (a_8 U (.inl rfl) (a_2 U rfl (.tmp rfl)) (⟨by first | rw [j_7 (by omega) hn (decide_eq_true (by assumption))] | rw [i_0 (fun i hi => hn i (by omega))], C.ext⟩)))
theorem contains_ok (xs : List Int) (x : Int) (v : Value) (w : World) (hv : SlAt w v 1 xs.length (ints xs)) (hlen : xs.length ≤ 1000000) :
  Calls Try.prog 122 #[v, (iv x)] w (Ret fun v w' => v = .bool (decide (x ∈ xs)) ∧ Ext NoB w w') := by
 refine b_0 Try.func122 rfl fun K B => ?_
 replace B : Fr 9 [] [(0, v), (1, (iv x))] K := B
 have I : Sep NoB w w [(sl v 1 xs.length (ints xs))] := f_1 ⟨rfl, hv, trivial⟩
 refine m2 (s1 B (a_0 rfl (evc _ _)) fun M E => ?_); clear B K
 refine n4 (s1 E (a_1 rfl E.e) fun N F => ?_); clear E M
 refine s1 F (a_1 rfl F.e) fun O C => ?_; clear F N
 refine s2 C (b_2 rfl en_123 (ev2 C.e C.e) (index_ok xs x _ _ (I.sk 0 rfl) hlen)) ?_
 rintro P _ R ⟨rfl, H⟩ G; have J := I.step H; clear H C I O
 refine s1 G (x_4 rfl G.e (evc _ _)) fun L A => ?_; clear G P
 refine s1 A (a_0 rfl A.e) fun Q D => ?_; clear A L
 exact n1 (c_2 (a_8 D (.inl rfl) (a_2 D rfl (.tmp rfl)) (⟨congrArg Value.bool ((r_4 (fun i => decide (x = xs.getD i 0)) xs.length).trans any_mem), J.ext⟩)))
end Go.Proofs.Ytohgladndklciaa

namespace Go.Proofs.Ytohgladndklciaa
open Go.RowKit Go.Shelf Go.Eng Go.Hard
theorem fd_37_0 : fldK Try.prog 37 0 = some 0 := by kernel_rfl
theorem en_48 : ∀ args w, (callFunc 48 args).run Try.prog w = .ok (.enter 48 args) w := enters_of Try.func48 (by kernel_rfl) rfl
theorem x_6 : tyK Try.prog 37 = some (true, 3) := by kernel_rfl
theorem fd_103_0 : fldK Try.prog 103 0 = some 0 := by kernel_rfl
theorem en_93 : ∀ args w, (callFunc 93 args).run Try.prog w = .ok (.enter 93 args) w := enters_of Try.func93 (by kernel_rfl) rfl
theorem en_98 : ∀ args w, (callFunc 98 args).run Try.prog w = .ok (.enter 98 args) w := enters_of Try.func98 (by kernel_rfl) rfl
theorem en_97 : ∀ args w, (callFunc 97 args).run Try.prog w = .ok (.enter 97 args) w := enters_of Try.func97 (by kernel_rfl) rfl
theorem i_3 : fldK Try.prog 106 2 = some 2 := by kernel_rfl
theorem n_6 : tyK Try.prog 104 = some (false, 1) := by kernel_rfl
theorem scale_ok (n : Int) (sc : Int) (vt vm : Value) (w : World) (h1_ : vt.oneCell' = true) (h2_ : vm.oneCell' = true) (hsc : 1 ≤ sc ∧ sc ≤ 4) :
  Calls Try.prog 93 #[(Value.agg #[(iv sc), vt, vm]), (iv n)] w (Ret fun v w' => v = .bool (inB n 0 (sc - 1)) ∧ Ext NoB w w') := by
 refine b_0 Try.func93 rfl fun L B => ?_
 replace B : Fr 10 [] [(0, (Value.agg #[(iv sc), vt, vm])), (1, (iv n))] L := B
 have J : Sep NoB w w [] := Sep.start _ _
 refine m2 (s2 B (f_2 J rfl B.e (cs := [(iv sc), vt, vm]) rfl) ?_)
 rintro Q _ V ⟨U, rfl, K⟩ I; clear B J L
 refine s1 I (a_0 rfl (evc _ _)) fun R G => ?_; clear I Q
 refine n4 (s1 G (a_1 rfl G.e) fun S H => ?_); clear G R
 refine s1 H (a_3 rfl fd_37_0 H.e) fun M C => ?_; clear H S
 refine s1 C (a_4 rfl ty_3 C.e (K.bk 0 rfl) rfl) fun N D => ?_; clear C M
 refine s1 D (i_5 rfl D.e (evc _ _) (by omega) (by omega)) fun O A => ?_; clear D N
 refine s2 A (b_2 rfl en_47 (ev3 A.e (evc _ _) A.e) (n_7 _ _ _ _)) ?_
 rintro P _ W_ ⟨rfl, hW_⟩ E; have hW2_ := hW_.symm; subst hW2_; clear hW_ A O
 refine s1 E (a_0 rfl E.e) fun T F => ?_; clear E P
 exact n1 (c_2 (a_8 F (.inl rfl) (a_2 F rfl (.tmp rfl)) (⟨rfl, K.ext⟩)))
theorem blk_ok (M N X : Int) (w : World) :
  Calls Try.prog 98 #[(Value.agg #[(iv M), (iv N), (iv X)])] w (Ret fun v w' => v = .bool (blkB (M, N, X)) ∧ Ext NoB w w') := by
 refine b_0 Try.func98 rfl fun c D => ?_
 replace D : Fr 11 [] [(0, (Value.agg #[(iv M), (iv N), (iv X)]))] c := D
 have a : Sep NoB w w [] := Sep.start _ _
 refine m2 (s2 D (f_2 a rfl D.e (cs := [(iv M), (iv N), (iv X)]) rfl) ?_)
 rintro p _ z ⟨y, rfl, W⟩ Z; clear D a c
 refine s1 Z (a_0 rfl (evc _ _)) fun q S => ?_; clear Z p
 refine n4 (s1 S (a_3 rfl fd_100_0 S.e) fun r T => ?_); clear S q
 refine s1 T (c_5 rfl f_5 (T.ev rfl) (W.bk 0 rfl) (l := [(iv M), (iv N)]) rfl rfl) fun d E => ?_; clear T r
 refine s2 E (b_2 rfl en_48 (ev1 E.e) (values_ok _ _ _)) ?_
 rintro f _ u ⟨rfl, U⟩ F; have C := W.step U; clear U E W d
 refine s1 F (a_1 rfl F.e) fun Y A => ?_; clear F f
 rcases Bool.eq_false_or_eq_true ((u_3 (M, N))) with L | L
 ·skip
  rw [L] at A
  refine s5 A (a_3 rfl fd_100_1 A.e) fun g G => ?_; clear A Y
  refine s5 G (a_4 rfl ty_3 G.e (C.bk 0 rfl) rfl) fun h H => ?_; clear G g
  refine s6 H (b_2 rfl en_70 (ev1 H.e) (value_ok _ _)) ?_
  rintro i _ x ⟨rfl, V⟩ B; have b := C.step V; clear V H C h
  refine s1 B (b_3 rfl B.e B.e) fun j I => ?_; clear B i
  refine s1 I (a_0 rfl I.e) fun s O => ?_; clear I j
  refine n1 (c_2 (a_8 O (.inl rfl) (a_2 O rfl (.tmp rfl)) ?_))
  exact ⟨congrArg Value.bool (by unfold blkB; simp [*]), b.ext⟩
 skip
 rw [L] at A
 refine s3 A fun k P => ?_; clear A Y
 refine s3 P fun m Q => ?_; clear P k
 refine s3 Q fun n J => ?_; clear Q m
 refine s1 J (d_1 rfl J.e (evc _ _)) fun o K => ?_; clear J n
 refine s1 K (a_0 rfl K.e) fun t R => ?_; clear K o
 refine n1 (c_2 (a_8 R (.inl rfl) (a_2 R rfl (.tmp rfl)) ?_))
 exact ⟨congrArg Value.bool (by unfold blkB; simp [*]), C.ext⟩
theorem machine_ok (sc : Int) (vt vm : Value) (w : World) (h1_ : vt.oneCell' = true) (h2_ : vm.oneCell' = true) (hsc : 1 ≤ sc ∧ sc ≤ 4) (m : MacD) (vk : Value) (hk : SlAt w vk 3 m.blocks.length (trips m.blocks)) (hbl : m.blocks.length ≤ 1000000) :
  Calls Try.prog 66 #[(Value.agg #[(iv sc), vt, vm]), (Value.agg #[(iv m.scale), vk])] w (Ret fun v w' => v = .bool (macB sc m) ∧ Ext NoB w w') := by
 refine b_0 Try.func66 rfl fun d F => ?_
 replace F : Fr 14 [] [(0, (Value.agg #[(iv sc), vt, vm])), (1, (Value.agg #[(iv m.scale), vk]))] d := F
 have a : Sep NoB w w [(sl vk 3 m.blocks.length (trips m.blocks))] := f_1 ⟨rfl, hk, trivial⟩
 refine m2 (s2 F (f_2 a rfl F.e (cs := [(iv sc), vt, vm]) rfl) ?_)
 rintro x _ w3 ⟨b4, rfl, b⟩ Q; clear F a d
 refine s2 Q (f_2 b rfl Q.e (cs := [(iv m.scale), vk]) rfl) ?_
 rintro y _ w8 ⟨b9, rfl, E⟩ Z; clear Q b x
 refine s1 Z (a_0 rfl (evc _ _)) fun f G => ?_; clear Z y
 refine n4 (s1 G (c_5 rfl x_6 (G.ev rfl) (E.bk 1 rfl) (l := [(iv sc), vt, vm]) rfl rfl) fun g H => ?_); clear G f
 refine s1 H (a_3 rfl fd_103_0 H.e) fun h I => ?_; clear H g
 refine s1 I (a_4 rfl ty_3 I.e (E.bk 0 rfl) rfl) fun j C => ?_; clear I h
 refine s2 C (b_2 rfl en_93 (ev2 C.e C.e) (scale_ok m.scale sc _ _ _ h1_ h2_ hsc)) ?_
 rintro k _ AB ⟨rfl, V⟩ J; have B := E.step V; clear V C E j
 refine s1 J (a_1 rfl J.e) fun Y A => ?_; clear J k
 rcases Bool.eq_false_or_eq_true ((inB m.scale 0 (sc - 1))) with P | P
 ·skip
  rw [P] at A
  refine s5 A (a_3 rfl fd_103_1 A.e) fun n K => ?_; clear A Y
  refine s5 K (a_4 rfl ty_101 K.e (B.bk 0 rfl) rfl) fun o L => ?_; clear K n
  refine s6 L (b_2 rfl en_97 (ev2 L.e (evf _ _)) (all_blk m.blocks _ 98 #[] #[] (fun i => blkB (m.blocks.getD i (0, 0, 0))) _ (B.sk 2 rfl) (by omega) ⟨en_98, fun i hi W hW => blk_ok _ _ _ W⟩)) ?_
  rintro p _ AC ⟨rfl, X⟩ D; have c := B.step X; clear X L B o
  refine s1 D (b_3 rfl D.e D.e) fun q M => ?_; clear D p
  refine s1 M (a_0 rfl M.e) fun z R => ?_; clear M q
  refine n1 (c_2 (a_8 R (.inl rfl) (a_2 R rfl (.tmp rfl)) ?_))
  exact ⟨congrArg Value.bool (by unfold macB allI; simp [*]), c.ext⟩
 skip
 rw [P] at A
 refine s3 A fun r S => ?_; clear A Y
 refine s3 S fun s T => ?_; clear S r
 refine s3 T fun t N => ?_; clear T s
 refine s1 N (d_1 rfl N.e (evc _ _)) fun u O => ?_; clear N t
 refine s1 O (a_0 rfl O.e) fun AA U => ?_; clear O u
 refine n1 (c_2 (a_8 U (.inl rfl) (a_2 U rfl (.tmp rfl)) ?_))
 exact ⟨congrArg Value.bool (by unfold macB allI; simp [*]), B.ext⟩
theorem mshort_ok (m : MacD) (vk : Value) (w : World) (hk : SlAt w vk 3 m.blocks.length (trips m.blocks)) :
  Calls Try.prog 64 #[(Value.agg #[(iv m.scale), vk])] w (Ret fun v w' => v = .bool (decide ((m.blocks.length : Int) ≤ 5)) ∧ Ext NoB w w') := by
 refine b_0 Try.func64 rfl fun K A => ?_
 replace A : Fr 7 [] [(0, (Value.agg #[(iv m.scale), vk]))] K := A
 have J : Sep NoB w w [(sl vk 3 m.blocks.length (trips m.blocks))] := f_1 ⟨rfl, hk, trivial⟩
 refine m2 (s2 A (f_2 J rfl A.e (cs := [(iv m.scale), vk]) rfl) ?_)
 rintro O _ T ⟨S, rfl, H⟩ I; clear A J K
 refine s1 I (a_0 rfl (evc _ _)) fun P F => ?_; clear I O
 refine n4 (s1 F (a_3 rfl fd_103_1 F.e) fun Q G => ?_); clear F P
 refine s1 G (a_4 rfl ty_101 G.e (H.bk 0 rfl) rfl) fun L B => ?_; clear G Q
 refine s1 B (e_0 rfl y_6 B.e (H.sk 1 rfl)) fun M C => ?_; clear B L
 refine s1 C (s_5 rfl C.e (evc _ _)) fun N D => ?_; clear C M
 refine s1 D (a_0 rfl D.e) fun R E => ?_; clear D N
 exact n1 (c_2 (a_8 E (.inl rfl) (a_2 E rfl (.tmp rfl)) (⟨rfl, H.ext⟩)))
theorem tshort_ok (t : TabD) (vr vb : Value) (w : World) (hr : SlAt w vr 2 t.rows.length (pairs t.rows)) (hb : SlAt w vb 1 t.brk.length (ints t.brk)) (hrl : t.rows.length ≤ 1000000) (hbl : t.brk.length ≤ 1000000) :
  Calls Try.prog 62 #[(Value.agg #[(iv t.frm), (iv t.dst), vr, vb, (iv t.err)])] w (Ret fun v w' => v = .bool (decide ((t.rows.length : Int) ≤ 8)) ∧ Ext NoB w w') := by
 refine b_0 Try.func62 rfl fun K A => ?_
 replace A : Fr 7 [] [(0, (Value.agg #[(iv t.frm), (iv t.dst), vr, vb, (iv t.err)]))] K := A
 have J : Sep NoB w w [(sl vr 2 t.rows.length (pairs t.rows)), (sl vb 1 t.brk.length (ints t.brk))] := f_1 ⟨rfl, hr, rfl, hb, trivial⟩
 refine m2 (s2 A (f_2 J rfl A.e (cs := [(iv t.frm), (iv t.dst), vr, vb, (iv t.err)]) rfl) ?_)
 rintro O _ T ⟨S, rfl, H⟩ I; clear A J K
 refine s1 I (a_0 rfl (evc _ _)) fun P F => ?_; clear I O
 refine n4 (s1 F (a_3 rfl i_3 F.e) fun Q G => ?_); clear F P
 refine s1 G (a_4 rfl n_6 G.e (H.bk 0 rfl) rfl) fun L B => ?_; clear G Q
 refine s1 B (e_0 rfl k_0 B.e (H.sk 1 rfl)) fun M C => ?_; clear B L
 refine s1 C (s_5 rfl C.e (evc _ _)) fun N D => ?_; clear C M
 refine s1 D (a_0 rfl D.e) fun R E => ?_; clear D N
 exact n1 (c_2 (a_8 E (.inl rfl) (a_2 E rfl (.tmp rfl)) (⟨rfl, H.ext⟩)))
end Go.Proofs.Ytohgladndklciaa

namespace Go.Proofs.Ytohgladndklciaa
open Go.RowKit Go.Shelf Go.Eng Go.Hard
theorem fd_106_3 : fldK Try.prog 106 3 = some 3 := by kernel_rfl
theorem en_78 : ∀ args w, (callFunc 78 args).run Try.prog w = .ok (.enter 78 args) w := enters_of Try.func78 (by kernel_rfl) rfl
theorem en_69 : ∀ args w, (callFunc 69 args).run Try.prog w = .ok (.enter 69 args) w := enters_of Try.func69 (by kernel_rfl) rfl
theorem g_0 : fldK Try.prog 46 2 = some 2 := by kernel_rfl
theorem l_8 : tyK Try.prog 43 = some (false, 1) := by kernel_rfl
theorem l_9 : Try.prog.underlying 43 = some (.slice 75) := by kernel_rfl
theorem o_3 : tyK Try.prog 75 = some (true, 2) := by kernel_rfl
theorem u_1 : fldK Try.prog 75 0 = some 0 := by kernel_rfl
theorem z_4 : tyK Try.prog 46 = some (true, 5) := by kernel_rfl
theorem convclo_ok (j : Nat) (X M : Int) (t : TabD) (vr vb : Value) (A B : Nat) (w : World) (r : (blk A 30 [.int .i64 X, .int .i64 M]).p w) (s : (blk B 106 [.int .i64 t.frm, .int .i64 t.dst, vr, vb, .int .i64 t.err]).p w) (hr : SlAt w vr 2 t.rows.length (pairs t.rows)) (hb : SlAt w vb 1 t.brk.length (ints t.brk)) (hrl : t.rows.length ≤ 1000000) (hj : j + 1 < t.rows.length) :
  Calls Try.prog 78 #[(iv (j : Int)), (bptr A 0), (bptr B 0)] w (Ret fun v w' => v = .bool (brB t (X, M) j) ∧ Ext NoB w w') := by
 refine b_0 Try.func78 rfl fun h J => ?_
 replace J : Fr 26 [] [(0, (iv (j : Int))), (1, (bptr A 0)), (2, (bptr B 0))] h := J
 have e2_ : (t.rows.getD ((j : Int) + 1).toNat (0, 0)).1 = (t.rows.getD (j + 1) (0, 0)).1 := by rw [show ((j : Int) + 1).toNat = j + 1 from by omega]
 have L : Sep NoB w w [(rob A 30 [(iv X), (iv M)]), (rob B 106 [(iv t.frm), (iv t.dst), vr, vb, (iv t.err)]), (sl vr 2 t.rows.length (pairs t.rows)), (sl vb 1 t.brk.length (ints t.brk))] := f_1 ⟨rfl, r, rfl, s, rfl, hr, rfl, hb, trivial⟩
 refine m2 (s1 J (a_0 rfl (evc _ _)) fun z Y => ?_); clear J h
 refine n2 ?_
 have K := Y.as [(0, (iv (j : Int))), (1, (bptr A 0)), (2, (bptr B 0))] rfl; clear Y
 by_cases b : M ≤ ((t.rows.getD j (0, 0)).1)
 ·skip
  have Z := K.as [(0, (iv (j : Int))), (1, (bptr A 0)), (2, (bptr B 0))] rfl; clear K
  refine i_2 mixed Z L 19 [[], [0], [], [2], [], [3, 4], [5], [6], [1, 7], [8], [9], [9, 10], [9], [9, 12], [9], [9, 14], [9, 13, 15], [9, 16], [9, 17]] [(Yd.val (bptr A 1)), (Yd.val (iv M)), (Yd.val (bptr B 2)), (Yd.val vr), (Yd.val (iv (j : Int))), (Yd.val (eptr vr (j * 2))), (Yd.val (eptr vr (j * 2 + 0))), (Yd.val (iv ((t.rows.getD j (0, 0)).1))), (Yd.val (Value.bool true)), (Yd.val (Value.bool true)), (Yd.val undef), (Yd.val undef), (Yd.val undef), (Yd.val undef), (Yd.val undef), (Yd.val undef), (Yd.val undef), (Yd.val undef), (Yd.val undef)] (by decide +kernel) rfl rfl ?_ ?_
  ·skip
   refine dq (fun a w hA hS hd => a_3 rfl m_4 hA.e) ?_
   refine dq (fun a w hA hS hd => a_4 rfl ty_3 (hq hd 0) (hS.rk 0 rfl) rfl) ?_
   refine dq (fun a w hA hS hd => a_3 rfl i_3 hA.e) ?_
   refine dq (fun a w hA hS hd => a_4 rfl n_6 (hq hd 2) (hS.rk 1 rfl) rfl) ?_
   refine dq (fun a w hA hS hd => a_1 rfl hA.e) ?_
   refine dq (fun a w hA hS hd => b_4 rfl k_0 h_8 (hq hd 3) (i := j) (hq hd 4) (hS.sk 2 rfl) (by decide) (by omega)) ?_
   refine dq (fun a w hA hS hd => e_2 rfl i_4 (hq hd 5) (hS.sk 2 rfl) (by rw [((hS.sk 2 rfl)).1]; omega)) ?_
   refine dq (fun a w hA hS hd => d_0 rfl ty_3 (hq hd 6) (hS.sk 2 rfl) (j_4 (by omega))) ?_
   refine ⟨fun a w hA hS hd => by have c := hx hd 1; have d := hx hd 7; exact d_6 rfl (dv (s_5 rfl (c_1 c) (c_1 d)) hS (by show Value.bool _ = _; simp only [decide_eq_true b, decide_true, decide_false, Bool.not_true, Bool.not_false])), ?_⟩
   refine dq (fun a w hA hS hd => a_1 rfl (hq hd 8)) ?_
   refine dn 9 (dn 9 (dn 9 (dn 9 (dn 9 (dn 9 (dn 9 (dn 9 (dn 9 ?_))))))))
   trivial
  intro q w9 N f E; clear Z L
  have O := N.add (hz E 9); clear N
  have P := O.add (hz E 11); clear O
  have Q := P.add (hz E 18); clear P
  clear E
  refine s3 Q fun k G => ?_; clear Q q
  refine s1 G (b_3 rfl G.e (evc _ _)) fun l H => ?_; clear G k
  refine s1 H (a_0 rfl H.e) fun u R => ?_; clear H l
  refine n1 (c_2 (a_8 R (.inl rfl) (a_2 R rfl (.tmp rfl)) ?_))
  exact ⟨congrArg Value.bool (by unfold brB tx; dsimp only; (rw [Bool.eq_iff_iff]; (try simp only [Bool.true_and, Bool.false_and, Bool.and_true, Bool.and_false, Bool.false_or, Bool.true_or, Bool.or_false, Bool.or_true, true_and, and_true, false_and, and_false, false_or, or_false, true_or, or_true, Bool.and_eq_true, Bool.or_eq_true, Bool.not_eq_true', decide_eq_true_eq, decide_eq_false_iff_not, Bool.false_eq_true, Bool.true_eq_false, Bool.not_true, Bool.not_false, eq_self_iff_true, true_iff, false_iff, iff_true, iff_false, not_true, not_false_eq_true]); omega)), f.ext⟩
 skip
 have S := K.as [(0, (iv (j : Int))), (1, (bptr A 0)), (2, (bptr B 0))] rfl; clear K
 refine i_2 mixed S L 19 [[], [0], [], [2], [], [3, 4], [5], [6], [1, 7], [8], [9], [9, 10], [9], [9, 12], [9], [9, 14], [9, 13, 15], [9, 16], [9, 17]] [(Yd.val (bptr A 1)), (Yd.val (iv M)), (Yd.val (bptr B 2)), (Yd.val vr), (Yd.val (iv (j : Int))), (Yd.val (eptr vr (j * 2))), (Yd.val (eptr vr (j * 2 + 0))), (Yd.val (iv ((t.rows.getD j (0, 0)).1))), (Yd.val (Value.bool false)), (Yd.val (Value.bool false)), (Yd.val (bptr A 0)), (Yd.val (iv X)), (Yd.val (bptr B 2)), (Yd.val vr), (Yd.val (iv (j : Int))), (Yd.val (iv ((j : Int) + 1))), (Yd.val (eptr vr ((j + 1) * 2))), (Yd.val (eptr vr ((j + 1) * 2 + 0))), (Yd.val (iv ((t.rows.getD (j + 1) (0, 0)).1)))] (by decide +kernel) rfl rfl ?_ ?_
 ·skip
  refine dq (fun a w hA hS hd => a_3 rfl m_4 hA.e) ?_
  refine dq (fun a w hA hS hd => a_4 rfl ty_3 (hq hd 0) (hS.rk 0 rfl) rfl) ?_
  refine dq (fun a w hA hS hd => a_3 rfl i_3 hA.e) ?_
  refine dq (fun a w hA hS hd => a_4 rfl n_6 (hq hd 2) (hS.rk 1 rfl) rfl) ?_
  refine dq (fun a w hA hS hd => a_1 rfl hA.e) ?_
  refine dq (fun a w hA hS hd => b_4 rfl k_0 h_8 (hq hd 3) (i := j) (hq hd 4) (hS.sk 2 rfl) (by decide) (by omega)) ?_
  refine dq (fun a w hA hS hd => e_2 rfl i_4 (hq hd 5) (hS.sk 2 rfl) (by rw [((hS.sk 2 rfl)).1]; omega)) ?_
  refine dq (fun a w hA hS hd => d_0 rfl ty_3 (hq hd 6) (hS.sk 2 rfl) (j_4 (by omega))) ?_
  refine ⟨fun a w hA hS hd => by have c := hx hd 1; have d := hx hd 7; exact d_6 rfl (dv (s_5 rfl (c_1 c) (c_1 d)) hS (by show Value.bool _ = _; simp only [decide_eq_false b, decide_true, decide_false, Bool.not_true, Bool.not_false])), ?_⟩
  refine dq (fun a w hA hS hd => a_1 rfl (hq hd 8)) ?_
  refine dy 9 (fun a w hA hS hd => a_3 rfl m_3 hA.e) ?_
  refine dy 9 (fun a w hA hS hd => a_4 rfl ty_3 (hq hd 10) (hS.rk 0 rfl) rfl) ?_
  refine dy 9 (fun a w hA hS hd => a_3 rfl i_3 hA.e) ?_
  refine dy 9 (fun a w hA hS hd => a_4 rfl n_6 (hq hd 12) (hS.rk 1 rfl) rfl) ?_
  refine dy 9 (fun a w hA hS hd => a_1 rfl hA.e) ?_
  refine dy 9 (fun a w hA hS hd => g_1 rfl (hq hd 14) (evc _ _) (by omega) (by omega)) ?_
  refine dy 9 (fun a w hA hS hd => b_4 rfl k_0 h_8 (hq hd 13) (i := j + 1) ((hq hd 15).trans (congrArg (Value.int .i64) (show ((j : Int) + 1 : Int) = ((j + 1 : Nat) : Int) by omega))) (hS.sk 2 rfl) (by decide) (by omega)) ?_
  refine dy 9 (fun a w hA hS hd => e_2 rfl i_4 (hq hd 16) (hS.sk 2 rfl) (by rw [((hS.sk 2 rfl)).1]; omega)) ?_
  refine dy 9 (fun a w hA hS hd => d_0 rfl ty_3 (hq hd 17) (hS.sk 2 rfl) (j_4 (by omega))) ?_
  trivial
 intro m y T g F; clear S L
 have U := T.add (hz F 9); clear T
 have V := U.add (hz F 11); clear U
 have C := V.add (hz F 18); clear V
 clear F
 refine s5 C (x_4 rfl C.e C.e) fun n D => ?_; clear C m
 refine s1 D (d_1 rfl D.e D.e) fun o I => ?_; clear D n
 refine s1 I (a_0 rfl I.e) fun x W => ?_; clear I o
 refine n1 (c_2 (a_8 W (.inl rfl) (a_2 W rfl (.tmp rfl)) ?_))
 exact ⟨congrArg Value.bool (by unfold brB tx; dsimp only; (rw [Bool.eq_iff_iff]; (try simp only [Bool.true_and, Bool.false_and, Bool.and_true, Bool.and_false, Bool.false_or, Bool.true_or, Bool.or_false, Bool.or_true, true_and, and_true, false_and, and_false, false_or, or_false, true_or, or_true, Bool.and_eq_true, Bool.or_eq_true, Bool.not_eq_true', decide_eq_true_eq, decide_eq_false_iff_not, Bool.false_eq_true, Bool.true_eq_false, Bool.not_true, Bool.not_false, eq_self_iff_true, true_iff, false_iff, iff_true, iff_false, not_true, not_false_eq_true]); omega)), g.ext⟩
theorem convclo_at (x : Int) (C D : Int) (t : TabD) (vr vb : Value) (A B : Nat) (w : World) (E : (blk A 30 [.int .i64 C, .int .i64 D]).p w) (F : (blk B 106 [.int .i64 t.frm, .int .i64 t.dst, vr, vb, .int .i64 t.err]).p w) (hr : SlAt w vr 2 t.rows.length (pairs t.rows)) (hb : SlAt w vb 1 t.brk.length (ints t.brk)) (hrl : t.rows.length ≤ 1000000) (hx : 0 ≤ x ∧ x ≤ (t.rows.length : Int) - 2) : Calls Try.prog 78 #[.int .i64 x, bptr A 0, bptr B 0] w (Ret fun v w' => v = .bool (brB t (C, D) x.toNat) ∧ Ext NoB w w') := by
 obtain ⟨j, rfl⟩ : ∃ j : Nat, x = (j : Int) := ⟨x.toNat, by omega⟩
 exact convclo_ok j C D t vr vb A B w E F hr hb hrl (by omega)
theorem converts_ok (M S : Int) (t : TabD) (vr vb : Value) (w : World) (hr : SlAt w vr 2 t.rows.length (pairs t.rows)) (hb : SlAt w vb 1 t.brk.length (ints t.brk)) (hrl : t.rows.length ≤ 1000000) (hbl : t.brk.length ≤ 1000000) (n : Int) (hV : TabV n t) :
  Calls Try.prog 49 #[(Value.agg #[(iv t.frm), (iv t.dst), vr, vb, (iv t.err)]), (Value.agg #[(iv M), (iv S)])] w (Ret fun v w' => v = .bool (o_9 t (M, S)) ∧ Ext NoB w w') := by
 refine b_0 Try.func49 rfl fun a0 L => ?_
 replace L : Fr 31 [] [(0, (Value.agg #[(iv t.frm), (iv t.dst), vr, vb, (iv t.err)])), (1, (Value.agg #[(iv M), (iv S)]))] a0 := L
 have hln := hV.len; have e2_ : (t.rows.getD ((t.rows.length : Int) - 1).toNat (0, 0)).1 = (t.rows.getD (t.rows.length - 1) (0, 0)).1 := by rw [show ((t.rows.length : Int) - 1).toNat = t.rows.length - 1 from by omega]
 have u : Sep NoB w w [(sl vr 2 t.rows.length (pairs t.rows)), (sl vb 1 t.brk.length (ints t.brk))] := f_1 ⟨rfl, hr, rfl, hb, trivial⟩
 refine m2 (s2 L (f_2 u rfl L.e (cs := [(iv t.frm), (iv t.dst), vr, vb, (iv t.err)]) rfl) ?_)
 rintro a1 _ w3 ⟨K, rfl, x⟩ V; clear L u a0
 refine s2 V (f_2 x rfl V.e (cs := [(iv M), (iv S)]) rfl) ?_
 rintro a6 _ w8 ⟨N, rfl, J⟩ s; clear V x a1
 refine s1 s (a_0 rfl (evc _ _)) fun AO T => ?_; clear s a6
 refine n2 (b_9 ?_)
 have C := T.as [(3, (bptr N 0)), (2, (bptr K 0))] rfl; clear T
 by_cases p : M < ((t.rows.getD 0 (0, 0)).1)
 ·skip
  have U := C.as [(3, (bptr N 0)), (2, (bptr K 0))] rfl; clear C
  refine i_2 mixed U J 20 [[], [0], [], [2], [3], [4], [5], [1, 6], [7], [8], [8, 9], [8], [8, 11], [8], [8, 13], [8, 14], [8, 15], [8, 12, 16], [8, 17], [8, 18]] [(Yd.val (bptr N 0)), (Yd.val (iv M)), (Yd.val (bptr K 2)), (Yd.val vr), (Yd.val (eptr vr (0 * 2))), (Yd.val (eptr vr (0 * 2 + 0))), (Yd.val (iv ((t.rows.getD 0 (0, 0)).1))), (Yd.val (Value.bool true)), (Yd.val (Value.bool true)), (Yd.val undef), (Yd.val undef), (Yd.val undef), (Yd.val undef), (Yd.val undef), (Yd.val undef), (Yd.val undef), (Yd.val undef), (Yd.val undef), (Yd.val undef), (Yd.val undef)] (by decide +kernel) rfl rfl ?_ ?_
  ·skip
   refine dq (fun a w hA hS hd => a_3 rfl m_3 hA.e) ?_
   refine dq (fun a w hA hS hd => a_4 rfl ty_3 (hq hd 0) (hS.bk 0 rfl) rfl) ?_
   refine dq (fun a w hA hS hd => a_3 rfl i_3 hA.e) ?_
   refine dq (fun a w hA hS hd => a_4 rfl n_6 (hq hd 2) (hS.bk 1 rfl) rfl) ?_
   refine dq (fun a w hA hS hd => b_4 rfl k_0 h_8 (hq hd 3) (i := 0) (show _ = Value.int .i64 ((0 : Nat) : Int) from (evc _ _)) (hS.sk 2 rfl) (by decide) (by omega)) ?_
   refine dq (fun a w hA hS hd => e_2 rfl i_4 (hq hd 4) (hS.sk 2 rfl) (by rw [((hS.sk 2 rfl)).1]; omega)) ?_
   refine dq (fun a w hA hS hd => d_0 rfl ty_3 (hq hd 5) (hS.sk 2 rfl) (j_4 (by omega))) ?_
   refine ⟨fun a w hA hS hd => by have y := hx hd 1; have z := hx hd 6; exact d_6 rfl (dv (g_2 rfl (c_1 y) (c_1 z)) hS (by show Value.bool _ = _; simp only [decide_eq_true p, decide_true, decide_false, Bool.not_true, Bool.not_false])), ?_⟩
   refine dq (fun a w hA hS hd => a_1 rfl (hq hd 7)) ?_
   refine dn 8 (dn 8 (dn 8 (dn 8 (dn 8 (dn 8 (dn 8 (dn 8 (dn 8 (dn 8 (dn 8 ?_))))))))))
   trivial
  intro AD AS X AA H; clear U J
  have Y := X.add (hz H 8); clear X
  have Z := Y.add (hz H 10); clear Y
  have b := Z.add (hz H 19); clear Z
  clear H
  refine s3 b fun AE O => ?_; clear b AD
  refine s1 O (b_3 rfl O.e (evc _ _)) fun AF P => ?_; clear O AE
  refine n1 (c_0 P rfl (b_9 ?_))
  have c := P.as [] rfl; clear P
  refine a_5 (s1 c (a_0 rfl (evc _ _)) fun AP d => ?_); clear c AF
  refine n1 (c_2 (a_6 (a_8 d (.inl rfl) (a_2 d rfl (.tmp rfl)) ?_)))
  exact ⟨congrArg Value.bool (Eq.symm (by first | exact conv_n1 (by unfold tx; dsimp only; omega) | exact conv_n2 (by unfold tx; dsimp only; omega))), AA.ext⟩
 skip
 have f := C.as [(3, (bptr N 0)), (2, (bptr K 0))] rfl; clear C
 refine i_2 mixed f J 20 [[], [0], [], [2], [3], [4], [5], [1, 6], [7], [8], [8, 9], [8], [8, 11], [8], [8, 13], [8, 14], [8, 15], [8, 12, 16], [8, 17], [8, 18]] [(Yd.val (bptr N 0)), (Yd.val (iv M)), (Yd.val (bptr K 2)), (Yd.val vr), (Yd.val (eptr vr (0 * 2))), (Yd.val (eptr vr (0 * 2 + 0))), (Yd.val (iv ((t.rows.getD 0 (0, 0)).1))), (Yd.val (Value.bool false)), (Yd.val (Value.bool false)), (Yd.val (bptr N 1)), (Yd.val (iv S)), (Yd.val (bptr K 2)), (Yd.val vr), (Yd.val (bptr K 2)), (Yd.val vr), (Yd.val (iv (t.rows.length : Int))), (Yd.val (iv ((t.rows.length : Int) - 1))), (Yd.val (eptr vr (((t.rows.length : Int) - 1).toNat * 2))), (Yd.val (eptr vr (((t.rows.length : Int) - 1).toNat * 2 + 0))), (Yd.val (iv ((t.rows.getD (((t.rows.length : Int) - 1).toNat) (0, 0)).1)))] (by decide +kernel) rfl rfl ?_ ?_
 ·skip
  refine dq (fun a w hA hS hd => a_3 rfl m_3 hA.e) ?_
  refine dq (fun a w hA hS hd => a_4 rfl ty_3 (hq hd 0) (hS.bk 0 rfl) rfl) ?_
  refine dq (fun a w hA hS hd => a_3 rfl i_3 hA.e) ?_
  refine dq (fun a w hA hS hd => a_4 rfl n_6 (hq hd 2) (hS.bk 1 rfl) rfl) ?_
  refine dq (fun a w hA hS hd => b_4 rfl k_0 h_8 (hq hd 3) (i := 0) (show _ = Value.int .i64 ((0 : Nat) : Int) from (evc _ _)) (hS.sk 2 rfl) (by decide) (by omega)) ?_
  refine dq (fun a w hA hS hd => e_2 rfl i_4 (hq hd 4) (hS.sk 2 rfl) (by rw [((hS.sk 2 rfl)).1]; omega)) ?_
  refine dq (fun a w hA hS hd => d_0 rfl ty_3 (hq hd 5) (hS.sk 2 rfl) (j_4 (by omega))) ?_
  refine ⟨fun a w hA hS hd => by have y := hx hd 1; have z := hx hd 6; exact d_6 rfl (dv (g_2 rfl (c_1 y) (c_1 z)) hS (by show Value.bool _ = _; simp only [decide_eq_false p, decide_true, decide_false, Bool.not_true, Bool.not_false])), ?_⟩
  refine dq (fun a w hA hS hd => a_1 rfl (hq hd 7)) ?_
  refine dy 8 (fun a w hA hS hd => a_3 rfl m_4 hA.e) ?_
  refine dy 8 (fun a w hA hS hd => a_4 rfl ty_3 (hq hd 9) (hS.bk 0 rfl) rfl) ?_
  refine dy 8 (fun a w hA hS hd => a_3 rfl i_3 hA.e) ?_
  refine dy 8 (fun a w hA hS hd => a_4 rfl n_6 (hq hd 11) (hS.bk 1 rfl) rfl) ?_
  refine dy 8 (fun a w hA hS hd => a_3 rfl i_3 hA.e) ?_
  refine dy 8 (fun a w hA hS hd => a_4 rfl n_6 (hq hd 13) (hS.bk 1 rfl) rfl) ?_
  refine dy 8 (fun a w hA hS hd => e_0 rfl k_0 (hq hd 14) (hS.sk 2 rfl)) ?_
  refine dy 8 (fun a w hA hS hd => i_5 rfl (hq hd 15) (evc _ _) (by omega) (by omega)) ?_
  refine dy 8 (fun a w hA hS hd => b_4 rfl k_0 h_8 (hq hd 12) (i := ((t.rows.length : Int) - 1).toNat) ((hq hd 16).trans (k_8 (by omega))) (hS.sk 2 rfl) (by decide) (by omega)) ?_
  refine dy 8 (fun a w hA hS hd => e_2 rfl i_4 (hq hd 17) (hS.sk 2 rfl) (by rw [((hS.sk 2 rfl)).1]; omega)) ?_
  refine dy 8 (fun a w hA hS hd => d_0 rfl ty_3 (hq hd 18) (hS.sk 2 rfl) (j_4 (by omega))) ?_
  trivial
 intro AG AT g B I; clear f J
 have h := g.add (hz I 8); clear g
 have j := h.add (hz I 10); clear h
 have D := j.add (hz I 19); clear j
 clear I
 refine s5 D (l_1 rfl D.e D.e) fun AH E => ?_; clear D AG
 refine s1 E (d_1 rfl E.e E.e) fun r A => ?_; clear E AH
 refine n1 ?_
 by_cases q : ((t.rows.getD (((t.rows.length : Int) - 1).toNat) (0, 0)).1) < S
 ·skip
  rw [decide_eq_true q] at A
  refine c_0 A rfl (b_9 ?_)
  have k := A.as [] rfl; clear A
  refine a_5 (s1 k (a_0 rfl (evc _ _)) fun AQ l => ?_); clear k r
  refine n1 (c_2 (a_6 (a_8 l (.inl rfl) (a_2 l rfl (.tmp rfl)) ?_)))
  exact ⟨congrArg Value.bool (Eq.symm (by first | exact conv_n1 (by unfold tx; dsimp only; omega) | exact conv_n2 (by unfold tx; dsimp only; omega))), B.ext⟩
 skip
 rw [decide_eq_false q] at A
 refine b_8 A rfl (d_4 (b_1 (m2 (s1 A (a_3 rfl fd_106_3 A.e) fun AI Q => ?_)))); clear A r
 refine s1 Q (a_4 rfl w_1 Q.e (B.bk 1 rfl) rfl) fun AJ F => ?_; clear Q AI
 refine s1 F (h_1 rfl ev0 (ev2 F.e F.e)) fun AK G => ?_; clear F AJ
 refine s2 G (b_2 rfl en_69 (ev2 G.e G.e) (all_int t.brk _ 78 #[] #[(bptr N 0), (bptr K 0)] (fun i => brB t (M, S) (t.brk.getD i 0).toNat) _ (B.sk 3 rfl) (by omega) ⟨en_78, fun i hi W hW => convclo_at _ _ _ t _ _ _ _ W ((B.step hW).bk 0 rfl) ((B.step hW).bk 1 rfl) ((B.step hW).sk 2 rfl) ((B.step hW).sk 3 rfl) hrl (hV.brk _ (n_4 hi))⟩)) ?_
 rintro AL _ AU ⟨rfl, o⟩ R; have AB := B.step o; clear o G B AK
 refine s1 R (a_0 rfl R.e) fun AR m => ?_; clear R AL
 refine n1 (c_2 (a_8 m (.inl rfl) (a_2 m rfl (.tmp rfl)) ?_))
 exact ⟨congrArg Value.bool (Eq.symm (conv_y (by unfold tx; dsimp only; omega) (by unfold tx; dsimp only; omega))), AB.ext⟩
end Go.Proofs.Ytohgladndklciaa

namespace Go.Proofs.Ytohgladndklciaa
open Go.RowKit Go.Shelf Go.Eng Go.Hard
theorem n_2 : fldK Try.prog 75 1 = some 1 := by kernel_rfl
theorem ze_75 : (Try.prog.info? 75).bind (·.zero) = some (Value.agg #[(iv 0), (iv 0)]) := by kernel_rfl
theorem fd_46_4 : fldK Try.prog 46 4 = some 4 := by kernel_rfl
theorem upF_bd {n d : Int} (hn : -100000000000 ≤ n ∧ n ≤ 100000000000) (hd : 0 < d ∧ d ≤ 100000) : -100000000001 ≤ upF n d ∧ upF n d ≤ 100000000001 := by
 have := downF_bd (n := -n) (d := d) (by omega) hd
 unfold upF; unfold z_9 at this; omega
end Go.Proofs.Ytohgladndklciaa

namespace Go.Hard
section
variable {n : Int} {t : TabD} {k : Nat}
theorem t_5 : tabB n t = true ↔ inB t.frm 0 (n - 1) = true ∧ inB t.dst 0 (n - 1) = true ∧ t.frm ≠ t.dst ∧ inB t.err 0 1000 = true ∧ 2 ≤ (t.rows.length : Int) ∧ (∀ i, i < t.rows.length → rowB (t.rows.getD i (0, 0)) = true) ∧ (∀ i, i < t.rows.length - 1 → x_7 (w_3 t) (t.rows.getD i (0, 0)) (t.rows.getD (i + 1) (0, 0)) = true) ∧ ∀ i, i < t.brk.length → brkB t i = true := by
  unfold tabB headB
  simp only [Bool.and_eq_true, Bool.not_eq_true', decide_eq_false_iff_not, decide_eq_true_eq, h_9, ne_eq, and_assoc]
theorem o_8 (h : inB t.frm 0 (n - 1) = false ∨ inB t.dst 0 (n - 1) = false ∨ t.frm = t.dst ∨ inB t.err 0 1000 = false ∨ (t.rows.length : Int) < 2) : tabB n t = false := by
  cases hb : tabB n t with
  | false => rfl
  | true =>
    have g := t_5.1 hb
    rcases h with h | h | h | h | h
    · rw [h] at g; cases g.1
    · rw [h] at g; cases g.2.1
    · exact absurd h g.2.2.1
    · rw [h] at g; cases g.2.2.2.1
    · have := g.2.2.2.2.1; omega
theorem tab_row (hk : k < t.rows.length) (h : rowB (t.rows.getD k (0, 0)) = false) : tabB n t = false := by
  cases hb : tabB n t with
  | false => rfl
  | true => have g := (t_5.1 hb).2.2.2.2.2.1 k hk; rw [h] at g; cases g
theorem t_6 (hk : k + 1 < t.rows.length) (h : x_7 (w_3 t) (t.rows.getD k (0, 0)) (t.rows.getD (k + 1) (0, 0)) = false) : tabB n t = false := by
  cases hb : tabB n t with
  | false => rfl
  | true => have g := (t_5.1 hb).2.2.2.2.2.2.1 k (by omega); rw [h] at g; cases g
theorem tab_brk (hk : k < t.brk.length) (h : brkB t k = false) : tabB n t = false := by
  cases hb : tabB n t with
  | false => rfl
  | true => have g := (t_5.1 hb).2.2.2.2.2.2.2 k hk; rw [h] at g; cases g
theorem q_6 {r : Bool} {a b : Int × Int} (h : ¬ a.1 < b.1 ∨ b.2 = a.2 ∨ decide (a.2 < b.2) ≠ r) : x_7 r a b = false := by
  cases hb : x_7 r a b with
  | false => rfl
  | true =>
    unfold x_7 at hb
    simp only [Bool.and_eq_true, decide_eq_true_eq, Bool.not_eq_true', decide_eq_false_iff_not, beq_iff_eq] at hb
    rcases h with h | h | h
    · exact absurd hb.1.1 h
    · exact absurd h hb.1.2
    · exact absurd hb.2 h
theorem step_y {r : Bool} {a b : Int × Int} (h1 : a.1 < b.1) (h2 : ¬ b.2 = a.2) (h3 : decide (a.2 < b.2) = r) : x_7 r a b = true := by
  unfold x_7
  simp only [Bool.and_eq_true, decide_eq_true_eq, Bool.not_eq_true', decide_eq_false_iff_not, beq_iff_eq]
  exact ⟨⟨h1, h2⟩, h3⟩
theorem brk_y0 (h : inB (t.brk.getD 0 0) 0 ((t.rows.length : Int) - 2) = true) : brkB t 0 = true := by
  unfold brkB; rw [show aa_2 t 0 = -1 from rfl]; rw [g_7] at h ⊢; omega
theorem brk_y1 (h : inB (t.brk.getD (k + 1) 0) 0 ((t.rows.length : Int) - 2) = true) (h2 : t.brk.getD k 0 < t.brk.getD (k + 1) 0) : brkB t (k + 1) = true := by
  unfold brkB aa_2; rw [g_7] at h ⊢; dsimp only; omega
theorem brk_n {i : Nat} (hp : ∀ j, j < i → 0 ≤ t.brk.getD j 0) (h : inB (t.brk.getD i 0) 0 ((t.rows.length : Int) - 2) = false) : brkB t i = false := by
  cases hb : brkB t i with
  | false => rfl
  | true =>
    unfold brkB at hb
    rw [g_7] at hb
    have : inB (t.brk.getD i 0) 0 ((t.rows.length : Int) - 2) = true := by
      rw [g_7]
      cases i with
      | zero => rw [show aa_2 t 0 = -1 from rfl] at hb; omega
      | succ j => have := hp j (by omega); unfold aa_2 at hb; dsimp only at hb; omega
    rw [this] at h; cases h
theorem brk_n1 (h : ¬ t.brk.getD k 0 < t.brk.getD (k + 1) 0) : brkB t (k + 1) = false := by
  cases hb : brkB t (k + 1) with
  | false => rfl
  | true => unfold brkB aa_2 at hb; rw [g_7] at hb; dsimp only at hb; omega
end
end Go.Hard

namespace Go.Proofs.Ytohgladndklciaa
open Go.RowKit Go.Shelf Go.Eng Go.Hard
end Go.Proofs.Ytohgladndklciaa
