/-
  What a table of straight pieces makes of values: it rises or falls, and so do its ends.
  Tables as data; what they make of values and ranges; a narrower range is converted to a narrower one.
  Spans: the greatest ranges that all tables leave as they are; any order of cutting finds them.
  Books, machines, readings; the loop of passes ends at the widest spans.
  The spans are the widest; what holds of all solutions holds of them.
  What the laws say of spans: narrower, the same, free, in them.
  The errors of books and readings.
  How the functions find what a table makes of a value.
  Books as they lie in memory.
  When a table is one of a book: told by the first thing that is not right.
-/
import Derived.Test.YtohgladndklciaaEnga
import Derived.Test.YtohgladndklciaaProg
import Derived.Shelf.Abstract
import Derived.Test.YtohgladndklciaaEngb
set_option linter.unusedSimpArgs false
set_option linter.unusedVariables false
namespace Go.Hard
inductive Made (X Y : Nat → Int) (len : Nat) (B : Nat → Prop) (v lo hi : Int) : Prop
  | row (i : Nat) (hi' : i < len) (hx : X i = v) (h1 : lo = Y i) (h2 : hi = Y i)
  | piece (i : Nat) (hi' : i + 1 < len) (ha : X i < v) (hb : v < X (i + 1)) (hB : ¬ B i) (h1 : lo = Y i + ((v - X i) * (Y (i + 1) - Y i)) / (X (i + 1) - X i)) (h2 : hi = Y i + -(-((v - X i) * (Y (i + 1) - Y i)) / (X (i + 1) - X i)))
section
variable {X Y : Nat → Int} {len : Nat} {B : Nat → Prop}
theorem lt_of_step (hX : ∀ i, i + 1 < len → X i < X (i + 1)) : ∀ {i j : Nat}, i < j → j < len → X i < X j := by
  intro i j hij hj
  induction j with
  | zero => omega
  | succ j ih =>
    have := hX j hj
    rcases Nat.lt_succ_iff_lt_or_eq.1 hij with h | h
    · have := ih h (by omega); omega
    · subst h; exact this
theorem w_5 (hX : ∀ i, i + 1 < len → X i < X (i + 1)) {i j : Nat} (hij : i ≤ j) (hj : j < len) : X i ≤ X j := by
  rcases Nat.eq_or_lt_of_le hij with h | h
  · subst h; exact Int.le_refl _
  · have := lt_of_step hX h hj; omega
theorem idx_of_lt (hX : ∀ i, i + 1 < len → X i < X (i + 1)) {i j : Nat} (hi : i < len) (h : X i < X j) : i < j := by
  rcases Nat.lt_or_ge i j with h1 | h1
  · exact h1
  · have := w_5 hX h1 hi; omega
theorem x_8 {v lo hi : Int} (h : Made X Y len B v lo hi) : Made X (fun i => -Y i) len B v (-hi) (-lo) := by
  cases h with
  | row i hi' hx h1 h2 => exact .row i hi' hx (by rw [h2]) (by rw [h1])
  | piece i hi' ha hb hB h1 h2 =>
    have e : (v - X i) * (-Y (i + 1) - -Y i) = -((v - X i) * (Y (i + 1) - Y i)) := by rw [← Int.mul_neg]; congr 1; omega
    refine .piece i hi' ha hb hB ?_ ?_
    · rw [e, h2]; omega
    · rw [e, h1, Int.neg_neg]; omega
theorem div_bd {n d m : Int} (hd : 0 < d) (h0 : 0 ≤ n) (h1 : n ≤ m * d) : 0 ≤ n / d ∧ n / d ≤ m := by
  refine ⟨Int.ediv_nonneg h0 (Int.le_of_lt hd), ?_⟩
  have := Int.ediv_le_ediv hd h1
  rwa [Int.mul_ediv_cancel _ (by omega)] at this
theorem up_bd {n d m : Int} (hd : 0 < d) (h0 : 0 ≤ n) (h1 : n ≤ m * d) : 0 ≤ -(-n / d) ∧ -(-n / d) ≤ m ∧ n / d ≤ -(-n / d) := by
  have a1 : -n / d ≤ 0 := by
    have := Int.ediv_le_ediv hd (show -n ≤ 0 by omega)
    rwa [Int.zero_ediv] at this
  have a2 : -m ≤ -n / d := by
    have := Int.ediv_le_ediv hd (show -m * d ≤ -n by rw [Int.neg_mul]; omega)
    rwa [Int.mul_ediv_cancel _ (by omega)] at this
  have b1 := Int.mul_ediv_self_le (x := n) (k := d) (by omega)
  have b2 := Int.mul_ediv_self_le (x := -n) (k := d) (by omega)
  refine ⟨by omega, by omega, ?_⟩
  have : d * (n / d + -n / d) ≤ d * 0 := by rw [Int.mul_add]; omega
  have := Int.le_of_mul_le_mul_left this hd
  omega
theorem div_mono {n m d : Int} (hd : 0 < d) (h : n ≤ m) : n / d ≤ m / d ∧ -(-n / d) ≤ -(-m / d) := by
  refine ⟨Int.ediv_le_ediv hd h, ?_⟩
  have := Int.ediv_le_ediv hd (show -m ≤ -n by omega)
  omega
section rising
variable (hX : ∀ i, i + 1 < len → X i < X (i + 1)) (hY : ∀ i, i + 1 < len → Y i < Y (i + 1))
include hX hY
theorem piece_bd {i : Nat} {v : Int} (hi : i + 1 < len) (ha : X i < v) (hb : v < X (i + 1)) :
    Y i ≤ Y i + ((v - X i) * (Y (i + 1) - Y i)) / (X (i + 1) - X i) ∧ Y i + -(-((v - X i) * (Y (i + 1) - Y i)) / (X (i + 1) - X i)) ≤ Y (i + 1) ∧ Y i + ((v - X i) * (Y (i + 1) - Y i)) / (X (i + 1) - X i) ≤ Y i + -(-((v - X i) * (Y (i + 1) - Y i)) / (X (i + 1) - X i)) := by
  have h0 := hX i hi
  have h1 := hY i hi
  have hn : 0 ≤ (v - X i) * (Y (i + 1) - Y i) := Int.mul_nonneg (by omega) (by omega)
  have hm : (v - X i) * (Y (i + 1) - Y i) ≤ (Y (i + 1) - Y i) * (X (i + 1) - X i) := by
    rw [Int.mul_comm (Y (i + 1) - Y i)]
    exact Int.mul_le_mul_of_nonneg_right (by omega) (by omega)
  have a := div_bd (by omega) hn hm
  have b := up_bd (by omega) hn hm
  omega
theorem w_6 {u v l1 h1 l2 h2 : Int} (hu : Made X Y len B u l1 h1) (hv : Made X Y len B v l2 h2) (h : u ≤ v) : l1 ≤ l2 ∧ h1 ≤ h2 := by
  cases hu with
  | row i hi ex e1 e2 =>
    cases hv with
    | row j hj ey f1 f2 =>
      have hij : i ≤ j := by
        rcases Nat.lt_or_ge j i with g | g
        · have := lt_of_step hX g hi; omega
        · exact g
      have := w_5 hY hij hj
      omega
    | piece j hj ha hb hB f1 f2 =>
      have hij : i ≤ j := by
        have : i < j + 1 := idx_of_lt hX hi (by omega)
        omega
      have := w_5 hY hij (by omega)
      have := piece_bd hX hY hj ha hb
      omega
  | piece i hi ha hb hB e1 e2 =>
    have hbi := piece_bd hX hY hi ha hb
    cases hv with
    | row j hj ey f1 f2 =>
      have hij : i + 1 ≤ j := idx_of_lt hX (by omega) (by omega)
      have := w_5 hY hij hj
      omega
    | piece j hj ha' hb' hB' f1 f2 =>
      have hbj := piece_bd hX hY hj ha' hb'
      have hij : i ≤ j := by
        have : i < j + 1 := idx_of_lt hX (by omega) (by omega)
        omega
      rcases Nat.eq_or_lt_of_le hij with g | g
      · subst g
        have h0 := hX i hi
        have h3 := hY i hi
        have := div_mono (d := X (i + 1) - X i) (by omega) (Int.mul_le_mul_of_nonneg_right (show u - X i ≤ v - X i by omega) (show 0 ≤ Y (i + 1) - Y i by omega))
        omega
      · have := w_5 hY (show i + 1 ≤ j from g) (by omega)
        omega
theorem made_one {v l1 h1 l2 h2 : Int} (hu : Made X Y len B v l1 h1) (hv : Made X Y len B v l2 h2) : l1 = l2 ∧ h1 = h2 := by
  have a := w_6 hX hY hu hv (Int.le_refl _)
  have b := w_6 hX hY hv hu (Int.le_refl _)
  omega
end rising
theorem made_ex (hX : ∀ i, i + 1 < len → X i < X (i + 1)) {v : Int} (h0 : X 0 ≤ v) (h1 : v ≤ X (len - 1)) (hl : 0 < len) : (∃ lo hi, Made X Y len B v lo hi) ∨ ∃ i, i + 1 < len ∧ X i < v ∧ v < X (i + 1) ∧ B i := by
  have key : ∀ k, k < len → v ≤ X k → (∃ lo hi, Made X Y len B v lo hi) ∨ ∃ i, i + 1 < len ∧ X i < v ∧ v < X (i + 1) ∧ B i := by
    intro k
    induction k with
    | zero => intro hk hv; exact .inl ⟨_, _, .row 0 hk (by omega) rfl rfl⟩
    | succ k ih =>
      intro hk hv
      by_cases hv' : v ≤ X k
      · exact ih (by omega) hv'
      · by_cases he : v = X (k + 1)
        · exact .inl ⟨_, _, .row (k + 1) hk he.symm rfl rfl⟩
        · by_cases hB : B k
          · exact .inr ⟨k, hk, by omega, by omega, hB⟩
          · exact .inl ⟨_, _, .piece k hk (by omega) (by omega) hB rfl rfl⟩
  exact key (len - 1) (by omega) h1
end
structure Rows (X Y : Nat → Int) (len : Nat) : Prop where
  x : ∀ i, i + 1 < len → X i < X (i + 1)
  y : (∀ i, i + 1 < len → Y i < Y (i + 1)) ∨ ∀ i, i + 1 < len → Y (i + 1) < Y i
section
variable {X Y : Nat → Int} {len : Nat} {B : Nat → Prop} (h : Rows X Y len)
include h
theorem Rows.one {v l1 h1 l2 h2 : Int} (hu : Made X Y len B v l1 h1) (hv : Made X Y len B v l2 h2) : l1 = l2 ∧ h1 = h2 := by
  rcases h.y with hy | hy
  · exact made_one h.x hy hu hv
  · have := made_one (Y := fun i => -Y i) h.x (fun i hi => by have := hy i hi; omega) (x_8 hu) (x_8 hv); omega
theorem Rows.between {u v x l1 h1 l2 h2 l3 h3 : Int} (hu : Made X Y len B u l1 h1) (hv : Made X Y len B v l2 h2) (hx : Made X Y len B x l3 h3) (hux : u ≤ x) (hxv : x ≤ v) : min l1 l2 ≤ l3 ∧ h3 ≤ max h1 h2 := by
  rcases h.y with hy | hy
  · have a := w_6 h.x hy hu hx hux
    have b := w_6 h.x hy hx hv hxv
    omega
  · have hy' : ∀ i, i + 1 < len → (fun i => -Y i) i < (fun i => -Y i) (i + 1) := fun i hi => by have := hy i hi; show -Y i < -Y (i + 1); omega
    have a := w_6 h.x hy' (x_8 hu) (x_8 hx) hux
    have b := w_6 h.x hy' (x_8 hx) (x_8 hv) hxv
    omega
end
end Go.Hard

namespace Go.Hard
abbrev Rng := Int × Int
structure TabD where
  frm : Int
  dst : Int
  rows : List (Int × Int)
  brk : List Int
  err : Int
deriving DecidableEq
def tab0 : TabD := ⟨0, 0, [], [], 0⟩
def tx (t : TabD) (i : Nat) : Int := (t.rows.getD i (0, 0)).1
def ty (t : TabD) (i : Nat) : Int := (t.rows.getD i (0, 0)).2
structure TabV (n : Int) (t : TabD) : Prop where
  frm : 0 ≤ t.frm ∧ t.frm < n
  dst : 0 ≤ t.dst ∧ t.dst < n
  ne : t.frm ≠ t.dst
  err : 0 ≤ t.err ∧ t.err ≤ 1000
  len : 2 ≤ t.rows.length
  bnd : ∀ i, i < t.rows.length → (1 ≤ tx t i ∧ tx t i ≤ 100000) ∧ 1 ≤ ty t i ∧ ty t i ≤ 100000
  rows : Rows (tx t) (ty t) t.rows.length
  brk : ∀ b ∈ t.brk, 0 ≤ b ∧ b ≤ (t.rows.length : Int) - 2
def broken (t : TabD) (i : Nat) : Prop := (i : Int) ∈ t.brk
instance (t : TabD) (i : Nat) : Decidable (broken t i) := inferInstanceAs (Decidable (_ ∈ _))
def pieceN (t : TabD) (v : Int) (i : Nat) : Int := (v - tx t i) * (ty t (i + 1) - ty t i)
def pieceD (t : TabD) (i : Nat) : Int := tx t (i + 1) - tx t i
def pieceR (t : TabD) (v : Int) (i : Nat) : Rng := (ty t i + pieceN t v i / pieceD t i, ty t i + -(-pieceN t v i / pieceD t i))
def m_4 (t : TabD) (v : Int) (i : Nat) : Bool := decide (tx t i < v) && decide (v < tx t (i + 1)) && !decide (broken t i)
def atRow (t : TabD) (v : Int) (i : Nat) : Bool := decide (tx t i = v)
def s_7 (t : TabD) (v : Int) : Option Rng :=
  match (List.range t.rows.length).find? (atRow t v) with
  | some i => some (ty t i, ty t i)
  | none => match (List.range (t.rows.length - 1)).find? (m_4 t v) with
    | some i => some (pieceR t v i)
    | none => none
abbrev MadeT (t : TabD) (v lo hi : Int) : Prop := Made (tx t) (ty t) t.rows.length (broken t) v lo hi
theorem made_is {t : TabD} {v : Int} {r : Rng} (h : s_7 t v = some r) : MadeT t v r.1 r.2 := by
  unfold s_7 at h
  split at h
  · rename_i i hf
    have hi := List.mem_range.1 (List.mem_of_find?_eq_some hf)
    have hx : atRow t v i = true := List.find?_some hf
    obtain rfl := Option.some.inj h
    exact .row i hi (of_decide_eq_true hx) rfl rfl
  · split at h
    · rename_i i hf
      have hi := List.mem_range.1 (List.mem_of_find?_eq_some hf)
      have hx := List.find?_some hf
      unfold m_4 at hx
      simp only [Bool.and_eq_true, decide_eq_true_eq, Bool.not_eq_true', decide_eq_false_iff_not] at hx
      obtain rfl := Option.some.inj h
      exact .piece i (by omega) hx.1.1 hx.1.2 hx.2 rfl rfl
    · cases h
theorem made_some {t : TabD} {v lo hi : Int} (h : MadeT t v lo hi) : ∃ r, s_7 t v = some r := by
  unfold s_7
  split
  · exact ⟨_, rfl⟩
  · rename_i hn
    split
    · exact ⟨_, rfl⟩
    · rename_i hn2
      exfalso
      cases h with
      | row i hi hx h1 h2 => exact List.find?_eq_none.1 hn i (List.mem_range.2 hi) (decide_eq_true hx)
      | piece i hi ha hb hB h1 h2 =>
        refine List.find?_eq_none.1 hn2 i (List.mem_range.2 (by omega)) ?_
        unfold m_4
        simp only [Bool.and_eq_true, decide_eq_true_eq, Bool.not_eq_true', decide_eq_false_iff_not]
        exact ⟨⟨ha, hb⟩, hB⟩
theorem made_iff {n : Int} {t : TabD} {v lo hi : Int} (hV : TabV n t) : s_7 t v = some (lo, hi) ↔ MadeT t v lo hi := by
  constructor
  · intro h; exact made_is h
  · intro h
    obtain ⟨r, e⟩ := made_some h
    have := hV.rows.one (made_is e) h
    rw [e]; congr 1; exact Prod.ext this.1 this.2
def r_7 (t : TabD) (r : Rng) : Bool := decide (tx t 0 ≤ r.1) && decide (r.2 ≤ tx t (t.rows.length - 1)) && t.brk.all fun b => decide (r.2 ≤ tx t b.toNat) || decide (tx t (b.toNat + 1) ≤ r.1)
def endsF (t : TabD) (a b : Rng) : Rng := (min a.1 b.1 - t.err, max a.2 b.2 + t.err)
def l_8 (t : TabD) (r : Rng) : Rng := endsF t ((s_7 t r.1).getD (0, 0)) ((s_7 t r.2).getD (0, 0))
theorem w_3 {t : TabD} {r : Rng} : r_7 t r = true ↔ tx t 0 ≤ r.1 ∧ r.2 ≤ tx t (t.rows.length - 1) ∧ ∀ b ∈ t.brk, r.2 ≤ tx t b.toNat ∨ tx t (b.toNat + 1) ≤ r.1 := by
  unfold r_7
  simp only [Bool.and_eq_true, decide_eq_true_eq, List.all_eq_true, Bool.or_eq_true, and_assoc]
section
variable {n : Int} {t : TabD} {r r' : Rng}
theorem conv_made (hV : TabV n t) (hc : r_7 t r = true) {v : Int} (h1 : r.1 ≤ v) (h2 : v ≤ r.2) : ∃ lo hi, MadeT t v lo hi := by
  have hc := w_3.1 hc
  have hl := hV.len
  rcases made_ex (Y := ty t) (B := broken t) hV.rows.x (v := v) (by omega) (by omega) (by omega) with h | ⟨i, hi, ha, hb, hB⟩
  · exact h
  · have := hc.2.2 _ hB
    rw [show ((i : Nat) : Int).toNat = i from rfl] at this
    omega
theorem conv_narrow (hc : r_7 t r = true) (h1 : r.1 ≤ r'.1) (h2 : r'.2 ≤ r.2) : r_7 t r' = true := by
  have hc := w_3.1 hc
  refine w_3.2 ⟨by omega, by omega, fun b hb => ?_⟩
  have := hc.2.2 b hb
  omega
theorem conv_ends (hV : TabV n t) (hc : r_7 t r = true) (h : r.1 ≤ r.2) : ∃ l1 h1 l2 h2, MadeT t r.1 l1 h1 ∧ MadeT t r.2 l2 h2 ∧ l_8 t r = (min l1 l2 - t.err, max h1 h2 + t.err) := by
  obtain ⟨l1, h1, m1⟩ := conv_made hV hc (Int.le_refl _) h
  obtain ⟨l2, h2, m2⟩ := conv_made hV hc h (Int.le_refl _)
  refine ⟨l1, h1, l2, h2, m1, m2, ?_⟩
  unfold l_8
  rw [(made_iff hV).2 m1, (made_iff hV).2 m2]; rfl
theorem conv_in (hV : TabV n t) (hc : r_7 t r = true) {v lo hi : Int} (h1 : r.1 ≤ v) (h2 : v ≤ r.2) (hm : MadeT t v lo hi) : (l_8 t r).1 ≤ lo - t.err ∧ hi + t.err ≤ (l_8 t r).2 := by
  obtain ⟨a, b, c, d, m1, m2, e⟩ := conv_ends hV hc (by omega)
  have := hV.rows.between m1 m2 hm h1 h2
  rw [e]; dsimp only; omega
theorem conv_sub (hV : TabV n t) (hc : r_7 t r = true) (h1 : r.1 ≤ r'.1) (h2 : r'.2 ≤ r.2) (hf : r'.1 ≤ r'.2) : r_7 t r' = true ∧ (l_8 t r).1 ≤ (l_8 t r').1 ∧ (l_8 t r').2 ≤ (l_8 t r).2 := by
  have hc' := conv_narrow hc h1 h2
  obtain ⟨a, b, c, d, m1, m2, e⟩ := conv_ends hV hc' hf
  have b1 := conv_in hV hc h1 (by omega) m1
  have b2 := conv_in hV hc (by omega) h2 m2
  refine ⟨hc', ?_⟩
  rw [e]; dsimp only; omega
end
end Go.Hard

namespace Go.Hard
abbrev h_2 := List Rng
def rng0 : Rng := (0, 100000)
def at' (s : h_2) (i : Nat) : Rng := s.getD i (0, 0)
def cutR (a b : Rng) : Rng := (max a.1 b.1, min a.2 b.2)
def Sub (n : Nat) (s s' : h_2) : Prop := ∀ i, i < n → (at' s' i).1 ≤ (at' s i).1 ∧ (at' s i).2 ≤ (at' s' i).2
def Full (n : Nat) (s : h_2) : Prop := ∀ i, i < n → (at' s i).1 ≤ (at' s i).2
def Stable1 (t : TabD) (s : h_2) : Prop := r_7 t (at' s t.frm.toNat) = true → (l_8 t (at' s t.frm.toNat)).1 ≤ (at' s t.dst.toNat).1 ∧ (at' s t.dst.toNat).2 ≤ (l_8 t (at' s t.frm.toNat)).2
def Stable (ts : List TabD) (s : h_2) : Prop := ∀ t ∈ ts, Stable1 t s
structure Sol (n : Nat) (ts : List TabD) (s0 s : h_2) : Prop where
  sub : Sub n s s0
  full : Full n s
  stable : Stable ts s
def z_3 (n : Nat) (ts : List TabD) (s0 : h_2) (r : Option h_2) : Prop :=
  match r with
  | some s => s.length = n ∧ Sol n ts s0 s ∧ ∀ s', Sol n ts s0 s' → Sub n s' s
  | none => ∀ s', ¬ Sol n ts s0 s'
theorem Sub.refl (n : Nat) (s : h_2) : Sub n s s := fun _ _ => ⟨Int.le_refl _, Int.le_refl _⟩
theorem Sub.trans {n : Nat} {a b c : h_2} (h1 : Sub n a b) (h2 : Sub n b c) : Sub n a c := fun i hi => by
  have := h1 i hi; have := h2 i hi; omega
theorem Sub.eq {n : Nat} {a b : h_2} (ha : a.length = n) (hb : b.length = n) (h1 : Sub n a b) (h2 : Sub n b a) : a = b := by
  refine List.ext_getElem (by omega) fun i hi hi' => ?_
  have x1 := h1 i (by omega)
  have x2 := h2 i (by omega)
  simp only [at', List.getD, List.getElem?_eq_getElem hi, List.getElem?_eq_getElem hi', Option.getD_some] at x1 x2
  exact Prod.ext (by omega) (by omega)
theorem z_3.first {n : Nat} {ts : List TabD} {s0 s1 : h_2} {r : Option h_2} (h : z_3 n ts s0 r) (h1 : Sub n s0 s1) (h2 : Sub n s1 s0) : z_3 n ts s1 r := by
  have key : ∀ s, Sol n ts s0 s ↔ Sol n ts s1 s := fun s => ⟨fun g => ⟨g.sub.trans h1, g.full, g.stable⟩, fun g => ⟨g.sub.trans h2, g.full, g.stable⟩⟩
  cases r with
  | none => exact fun s' g => h s' ((key s').2 g)
  | some s => exact ⟨h.1, (key s).1 h.2.1, fun s' g => h.2.2 s' ((key s').2 g)⟩
def w_0 (t : TabD) (s : h_2) : h_2 := if r_7 t (at' s t.frm.toNat) then s.set t.dst.toNat (cutR (at' s t.dst.toNat) (l_8 t (at' s t.frm.toNat))) else s
theorem at_set {s : h_2} {i j : Nat} {r : Rng} (hi : i < s.length) : at' (s.set i r) j = if i = j then r else at' s j := by
  unfold at'
  by_cases h : i = j
  · subst h; rw [if_pos rfl]; simp [List.getD, hi]
  · rw [if_neg h]; simp [List.getD, h]
theorem step_len (t : TabD) (s : h_2) : (w_0 t s).length = s.length := by
  unfold w_0; split
  · exact List.length_set
  · rfl
section
variable {n : Nat} {t : TabD} {s s' s0 : h_2} {ts : List TabD}
theorem step_le (hV : TabV n t) (hl : n ≤ s.length) : Sub n (w_0 t s) s := by
  unfold w_0
  split
  · intro i hi
    have hd := hV.dst
    rw [at_set (by omega)]
    split
    · rename_i e; rw [e]; dsimp only [cutR]; omega
    · exact ⟨Int.le_refl _, Int.le_refl _⟩
  · exact Sub.refl n s
theorem step_ub (hV : TabV n t) (hl : n ≤ s.length) (hf : Full n s') (hs : Stable1 t s') (h : Sub n s' s) : Sub n s' (w_0 t s) := by
  unfold w_0
  split
  · rename_i hc
    have hd := hV.dst
    have hr := hV.frm
    have hfr := h t.frm.toNat (by omega)
    have hff := hf t.frm.toNat (by omega)
    have hk := conv_sub hV hc hfr.1 hfr.2 hff
    have hst := hs hk.1
    intro i hi
    rw [at_set (by omega)]
    have hi' := h i hi
    split
    · rename_i e
      subst e
      dsimp only [cutR]
      omega
    · exact hi'
  · exact h
theorem step_same (hV : TabV n t) (hl : n ≤ s.length) (h : Sub n s (w_0 t s)) : Stable1 t s := by
  intro hc
  have hd := hV.dst
  have := h t.dst.toNat (by omega)
  unfold w_0 at this
  rw [if_pos hc, at_set (by omega), if_pos rfl] at this
  dsimp only [cutR] at this
  omega
structure Ub (n : Nat) (ts : List TabD) (s0 s : h_2) : Prop where
  sub : Sub n s s0
  all : ∀ s', Sol n ts s0 s' → Sub n s' s
theorem Ub.start : Ub n ts s0 s0 := ⟨Sub.refl n s0, fun _ h => h.sub⟩
theorem Ub.step (h : Ub n ts s0 s) (hV : TabV n t) (ht : t ∈ ts) (hl : n ≤ s.length) : Ub n ts s0 (w_0 t s) :=
  ⟨(step_le hV hl).trans h.sub, fun s' g => step_ub hV hl g.full (g.stable t ht) (h.all s' g)⟩
theorem Ub.none {i : Nat} (h : Ub n ts s0 s) (hi : i < n) (he : (at' s i).2 < (at' s i).1) : z_3 n ts s0 none := fun s' g => by
  have := h.all s' g i hi
  have := g.full i hi
  omega
theorem at_take {i : Nat} (hi : i < n) : at' (s.take n) i = at' s i := by
  unfold at'; simp [List.getD, List.getElem?_take, hi]
theorem Ub.some (h : Ub n ts s0 s) (hl : n ≤ s.length) (hf : Full n s) (hV : ∀ t ∈ ts, TabV n t) (hs : Stable ts s) : z_3 n ts s0 (some (s.take n)) := by
  have e1 : Sub n (s.take n) s := fun i hi => by rw [at_take hi]; exact ⟨Int.le_refl _, Int.le_refl _⟩
  have e2 : Sub n s (s.take n) := fun i hi => by rw [at_take hi]; exact ⟨Int.le_refl _, Int.le_refl _⟩
  refine ⟨by rw [List.length_take]; omega, ⟨e1.trans h.sub, fun i hi => by rw [at_take hi]; exact hf i hi, fun t ht => ?_⟩, fun s' g => (h.all s' g).trans e2⟩
  have hv := hV t ht
  have h1 := hv.frm
  have h2 := hv.dst
  unfold Stable1
  rw [at_take (show t.frm.toNat < n by omega), at_take (show t.dst.toNat < n by omega)]
  exact hs t ht
end
def goS (x : h_2 × Bool) (t : TabD) : h_2 × Bool :=
  if x.2 then x else if (at' x.1 t.dst.toNat).2 < (at' x.1 t.dst.toNat).1 then (x.1, true) else (w_0 t x.1, false)
def h_6 (ts : List TabD) (s : h_2) : h_2 × Bool := ts.foldl goS (s, false)
theorem go_stop : ∀ (b : List TabD) (s : h_2), b.foldl goS (s, true) = (s, true)
  | [], _ => rfl
  | t :: b, s => by rw [List.foldl_cons]; exact go_stop b s
theorem pass_len : ∀ (ts : List TabD) (x : h_2 × Bool), (ts.foldl goS x).1.length = x.1.length
  | [], _ => rfl
  | t :: ts, x => by
    rw [List.foldl_cons, pass_len ts]
    unfold goS; split
    · rfl
    · split
      · rfl
      · exact step_len _ _
section
variable {n : Nat} {s0 : h_2} {all : List TabD}
theorem pass_le : ∀ (ts : List TabD) (x : h_2 × Bool), (∀ t ∈ ts, TabV n t) → n ≤ x.1.length → Sub n (ts.foldl goS x).1 x.1
  | [], x, _, _ => Sub.refl n x.1
  | t :: ts, x, hV, hl => by
    rw [List.foldl_cons]
    have h1 : Sub n (goS x t).1 x.1 ∧ (goS x t).1.length = x.1.length := by
      unfold goS; split
      · exact ⟨Sub.refl _ _, rfl⟩
      · split
        · exact ⟨Sub.refl _ _, rfl⟩
        · exact ⟨step_le (hV t (List.mem_cons_self ..)) hl, step_len _ _⟩
    exact (pass_le ts _ (fun t ht => hV t (List.mem_cons_of_mem _ ht)) (by omega)).trans h1.1
theorem pass_ub : ∀ (ts : List TabD) (x : h_2 × Bool), (∀ t ∈ ts, TabV n t ∧ t ∈ all) → n ≤ x.1.length → Ub n all s0 x.1 → Ub n all s0 (ts.foldl goS x).1
  | [], _, _, _, h => h
  | t :: ts, x, hV, hl, h => by
    rw [List.foldl_cons]
    have ht := hV t (List.mem_cons_self ..)
    have h1 : Ub n all s0 (goS x t).1 ∧ (goS x t).1.length = x.1.length := by
      unfold goS; split
      · exact ⟨h, rfl⟩
      · split
        · exact ⟨h, rfl⟩
        · exact ⟨h.step ht.1 ht.2 hl, step_len _ _⟩
    exact pass_ub ts _ (fun t ht => hV t (List.mem_cons_of_mem _ ht)) (by omega) h1.1
theorem pass_same : ∀ (ts : List TabD) (s : h_2), (∀ t ∈ ts, TabV n t) → n ≤ s.length → Full n s → Sub n s (ts.foldl goS (s, false)).1 → ∀ t ∈ ts, Stable1 t s
  | [], _, _, _, _, _, t, ht => by cases ht
  | u :: ts, s, hV, hl, hf, h, t, ht => by
    rw [List.foldl_cons] at h
    have hu := hV u (List.mem_cons_self ..)
    have hd := hu.dst
    have hne : ¬ (at' s u.dst.toNat).2 < (at' s u.dst.toNat).1 := by have := hf u.dst.toNat (by omega); omega
    have hg : goS (s, false) u = (w_0 u s, false) := by
      unfold goS; rw [if_neg (by simp), if_neg hne]
    rw [hg] at h
    have hle := pass_le ts (w_0 u s, false) (fun t ht => hV t (List.mem_cons_of_mem _ ht)) (by show n ≤ (w_0 u s).length; rw [step_len]; exact hl)
    have hs : Sub n s (w_0 u s) := h.trans hle
    have hst := step_same hu hl hs
    rcases List.mem_cons.1 ht with rfl | ht
    · exact hst
    · have hsl := step_le hu hl
      have hst' : ∀ t ∈ ts, Stable1 t (w_0 u s) := pass_same ts (w_0 u s) (fun t ht => hV t (List.mem_cons_of_mem _ ht)) (by rw [step_len]; exact hl) (fun i hi => by have := hf i hi; have := hs i hi; omega) (by
        refine Sub.trans hsl h)
      have hv := hV t (List.mem_cons_of_mem _ ht)
      have := hst' t ht
      have q1 := hv.frm
      have q2 := hv.dst
      have eq : ∀ i, i < n → at' (w_0 u s) i = at' s i := fun i hi => by
        have a := hs i hi; have b := hsl i hi
        exact Prod.ext (by omega) (by omega)
      unfold Stable1 at this ⊢
      rwa [eq _ (show t.frm.toNat < n by omega), eq _ (show t.dst.toNat < n by omega)] at this
end
end Go.Hard

namespace Go.Hard
theorem step_out {n : Nat} {t : TabD} {s : h_2} {j : Nat} (hV : TabV n t) (hj : n ≤ j) : at' (w_0 t s) j = at' s j := by
  unfold w_0
  split
  · have := hV.dst
    unfold at'
    have hne : t.dst.toNat ≠ j := by omega
    simp [List.getD, hne]
  · rfl
theorem pass_out {n : Nat} {j : Nat} (hj : n ≤ j) : ∀ (ts : List TabD) (x : h_2 × Bool), (∀ t ∈ ts, TabV n t) → at' (ts.foldl goS x).1 j = at' x.1 j
  | [], _, _ => rfl
  | t :: ts, x, hV => by
    rw [List.foldl_cons, pass_out hj ts _ (fun t ht => hV t (List.mem_cons_of_mem _ ht))]
    unfold goS; split
    · rfl
    · split
      · rfl
      · exact step_out (hV t (List.mem_cons_self ..)) hj
def wide (r : Rng) : Nat := (r.2 - r.1).toNat
def width (s : h_2) : Nat := wide (at' s 0) + wide (at' s 1) + wide (at' s 2) + wide (at' s 3)
def ac_4 (n : Nat) (s : h_2) : Bool := (List.range n).all fun i => decide ((at' s i).1 ≤ (at' s i).2)
theorem s_5 {n : Nat} {s : h_2} : ac_4 n s = true ↔ Full n s := by
  unfold ac_4 Full
  simp only [List.all_eq_true, List.mem_range, decide_eq_true_eq]
theorem wide_le {r r' : Rng} (h1 : r.1 ≤ r'.1) (h2 : r'.2 ≤ r.2) : wide r' ≤ wide r := by unfold wide; omega
theorem wide_lt {r r' : Rng} (h1 : r.1 ≤ r'.1) (h2 : r'.2 ≤ r.2) (hf : r'.1 ≤ r'.2) (hn : r' ≠ r) : wide r' < wide r := by
  unfold wide
  have : ¬ (r'.1 = r.1 ∧ r'.2 = r.2) := fun h => hn (Prod.ext h.1 h.2)
  omega
theorem width_lt {n : Nat} {x s : h_2} (hn : n ≤ 4) (hx : x.length = 4) (hs : s.length = 4) (hle : Sub n x s) (hout : ∀ j, n ≤ j → at' x j = at' s j) (hf : Full n x) (hne : x ≠ s) : width x < width s := by
  have each : ∀ i, wide (at' x i) ≤ wide (at' s i) ∧ (at' x i ≠ at' s i → wide (at' x i) < wide (at' s i)) := fun i => by
    by_cases hi : i < n
    · have := hle i hi
      exact ⟨wide_le this.1 this.2, fun h => wide_lt this.1 this.2 (hf i hi) h⟩
    · rw [hout i (by omega)]; exact ⟨Nat.le_refl _, fun h => absurd rfl h⟩
  have hex : at' x 0 ≠ at' s 0 ∨ at' x 1 ≠ at' s 1 ∨ at' x 2 ≠ at' s 2 ∨ at' x 3 ≠ at' s 3 := by
    rcases Decidable.em (at' x 0 = at' s 0) with h0 | h0
    · rcases Decidable.em (at' x 1 = at' s 1) with h1 | h1
      · rcases Decidable.em (at' x 2 = at' s 2) with h2 | h2
        · rcases Decidable.em (at' x 3 = at' s 3) with h3 | h3
          · refine absurd (List.ext_getElem (by omega) fun i hi hi' => ?_) hne
            have key : at' x i = at' s i := by
              rw [hx] at hi
              match i, hi with
              | 0, _ => exact h0
              | 1, _ => exact h1
              | 2, _ => exact h2
              | 3, _ => exact h3
            simpa only [at', List.getD, List.getElem?_eq_getElem hi, List.getElem?_eq_getElem hi', Option.getD_some] using key
          · exact .inr (.inr (.inr h3))
        · exact .inr (.inr (.inl h2))
      · exact .inr (.inl h1)
    · exact .inl h0
  have e0 := each 0; have e1 := each 1; have e2 := each 2; have e3 := each 3
  unfold width
  rcases hex with h | h | h | h
  · have := e0.2 h; omega
  · have := e1.2 h; omega
  · have := e2.2 h; omega
  · have := e3.2 h; omega
def r_2 (n : Nat) (ts : List TabD) : Nat → h_2 → Option h_2
  | 0, _ => none
  | k + 1, s => if ac_4 n (h_6 ts s).1 then (if (h_6 ts s).1 = s then some (s.take n) else r_2 n ts k (h_6 ts s).1) else none
structure Loop (n : Nat) (ts : List TabD) (s0 s : h_2) : Prop where
  len : s.length = 4
  full : Full n s
  ub : Ub n ts s0 s
section
variable {n : Nat} {ts all : List TabD} {s0 s : h_2}
theorem Loop.pass (h : Loop n all s0 s) (hn : n ≤ 4) (hV : ∀ t ∈ ts, TabV n t ∧ t ∈ all) : (h_6 ts s).1.length = 4 ∧ Ub n all s0 (h_6 ts s).1 ∧ Sub n (h_6 ts s).1 s ∧ ∀ j, n ≤ j → at' (h_6 ts s).1 j = at' s j :=
  ⟨by rw [h_6, pass_len]; exact h.len, pass_ub ts (s, false) hV (by show n ≤ s.length; rw [h.len]; exact hn) h.ub, pass_le ts (s, false) (fun t ht => (hV t ht).1) (by show n ≤ s.length; rw [h.len]; exact hn), fun _ hj => pass_out hj ts (s, false) fun t ht => (hV t ht).1⟩
theorem Loop.next (h : Loop n all s0 s) (hn : n ≤ 4) (hV : ∀ t ∈ ts, TabV n t ∧ t ∈ all) (hf : Full n (h_6 ts s).1) (hne : (h_6 ts s).1 ≠ s) : Loop n all s0 (h_6 ts s).1 ∧ width (h_6 ts s).1 < width s := by
  have g := h.pass hn hV
  exact ⟨⟨g.1, hf, g.2.1⟩, width_lt hn g.1 h.len g.2.2.1 g.2.2.2 hf hne⟩
theorem Loop.fail (h : Loop n all s0 s) (hn : n ≤ 4) (hV : ∀ t ∈ ts, TabV n t ∧ t ∈ all) (hf : ¬ Full n (h_6 ts s).1) : z_3 n all s0 none := by
  have g := h.pass hn hV
  have : ∃ i, i < n ∧ (at' (h_6 ts s).1 i).2 < (at' (h_6 ts s).1 i).1 := by
    refine Decidable.byContradiction fun hne => hf fun i hi => ?_
    exact Decidable.byContradiction fun hlt => hne ⟨i, hi, by omega⟩
  obtain ⟨i, hi, he⟩ := this
  exact g.2.1.none hi he
theorem Loop.done (h : Loop n all s0 s) (hn : n ≤ 4) (hV : ∀ t ∈ ts, TabV n t ∧ t ∈ all) (ha : ∀ t ∈ all, t ∈ ts) (he : (h_6 ts s).1 = s) : z_3 n all s0 (some (s.take n)) := by
  have hst := pass_same (n := n) ts s (fun t ht => (hV t ht).1) (by rw [h.len]; exact hn) h.full (by
    show Sub n s (h_6 ts s).1
    rw [he]; exact Sub.refl n s)
  exact h.ub.some (by rw [h.len]; exact hn) h.full (fun t ht => (hV t (ha t ht)).1) fun t ht => hst t (ha t ht)
theorem spansK_is (hn : n ≤ 4) (hV : ∀ t ∈ ts, TabV n t ∧ t ∈ all) (ha : ∀ t ∈ all, t ∈ ts) : ∀ (k : Nat) (s : h_2), Loop n all s0 s → width s < k → z_3 n all s0 (r_2 n ts k s)
  | 0, _, _, hk => absurd hk (Nat.not_lt_zero _)
  | k + 1, s, h, hk => by
    rw [r_2]
    split
    · rename_i hf
      have hf := s_5.1 hf
      split
      · rename_i he; exact h.done hn hV ha he
      · rename_i he
        have g := h.next hn hV hf he
        exact spansK_is hn hV ha k _ g.1 (by omega)
    · rename_i hf
      exact h.fail hn hV fun g => hf (s_5.2 g)
end
structure MacD where
  scale : Int
  blocks : List (Int × Int × Int)
deriving DecidableEq
def mac0 : MacD := ⟨0, []⟩
structure h_0 where
  scales : Int
  tabs : List TabD
  macs : List MacD
def k_2 (bl : List (Int × Int × Int)) : Nat → Rng
  | 0 => (-100000, 100000)
  | k + 1 => cutR (k_2 bl k) ((bl.getD k (0, 0, 0)).2.2 - (bl.getD k (0, 0, 0)).2.1, (bl.getD k (0, 0, 0)).2.2 - (bl.getD k (0, 0, 0)).1)
def e_5 (m : MacD) : Rng := k_2 m.blocks m.blocks.length
def offB (m : MacD) : Bool := decide ((e_5 m).2 < (e_5 m).1)
structure MacV (n : Int) (m : MacD) : Prop where
  scale : 0 ≤ m.scale ∧ m.scale < n
  blocks : ∀ i, i < m.blocks.length → (0 ≤ (m.blocks.getD i (0, 0, 0)).1 ∧ (m.blocks.getD i (0, 0, 0)).1 ≤ (m.blocks.getD i (0, 0, 0)).2.1 ∧ (m.blocks.getD i (0, 0, 0)).2.1 ≤ 100000) ∧ 0 ≤ (m.blocks.getD i (0, 0, 0)).2.2 ∧ (m.blocks.getD i (0, 0, 0)).2.2 ≤ 100000
structure l_3 (b : h_0) : Prop where
  scales : 1 ≤ b.scales ∧ b.scales ≤ 4
  tlen : b.tabs.length ≤ 6
  mlen : b.macs.length ≤ 6
  rows : ∀ t ∈ b.tabs, t.rows.length ≤ 8
  blks : ∀ m ∈ b.macs, m.blocks.length ≤ 5
  tabs : ∀ t ∈ b.tabs, TabV b.scales t
  macs : ∀ m ∈ b.macs, MacV b.scales m
def d_5 (b : h_0) (l : List (Int × Int)) (s : h_2) : Nat → h_2
  | 0 => s
  | k + 1 => (d_5 b l s k).set (b.macs.getD (l.getD k (0, 0)).1.toNat mac0).scale.toNat (cutR (at' (d_5 b l s k) (b.macs.getD (l.getD k (0, 0)).1.toNat mac0).scale.toNat) ((l.getD k (0, 0)).2 - (e_5 (b.macs.getD (l.getD k (0, 0)).1.toNat mac0)).2, (l.getD k (0, 0)).2 - (e_5 (b.macs.getD (l.getD k (0, 0)).1.toNat mac0)).1))
def e_9 : h_2 := [rng0, rng0, rng0, rng0]
def s_2 (b : h_0) (l : List (Int × Int)) : h_2 := d_5 b l e_9 l.length
def g_2 (n : Nat) (ts : List TabD) : List TabD := (List.range n).flatMap fun (to : Nat) => (List.range n).flatMap fun (frm : Nat) => ts.filter fun t => decide (t.frm = (frm : Int)) && decide (t.dst = (to : Int))
theorem mem_order {n : Nat} {ts : List TabD} {t : TabD} : t ∈ g_2 n ts → t ∈ ts := by
  unfold g_2
  intro h
  obtain ⟨a, _, h⟩ := List.mem_flatMap.1 h
  obtain ⟨b, _, h⟩ := List.mem_flatMap.1 h
  exact (List.mem_filter.1 h).1
theorem order_mem {n : Nat} {ts : List TabD} {t : TabD} (hV : TabV n t) (h : t ∈ ts) : t ∈ g_2 n ts := by
  unfold g_2
  have h1 := hV.frm
  have h2 := hV.dst
  refine List.mem_flatMap.2 ⟨t.dst.toNat, List.mem_range.2 (by omega), List.mem_flatMap.2 ⟨t.frm.toNat, List.mem_range.2 (by omega), List.mem_filter.2 ⟨h, ?_⟩⟩⟩
  simp only [Bool.and_eq_true, decide_eq_true_eq]
  omega
def i_7 (b : h_0) (l : List (Int × Int)) : Option h_2 :=
  if ac_4 b.scales.toNat (s_2 b l) then r_2 b.scales.toNat (g_2 b.scales.toNat b.tabs) 400001 (s_2 b l) else none
end Go.Hard

namespace Go.Hard
structure t_6 (b : h_0) (l : List (Int × Int)) : Prop where
  len : l.length ≤ 8
  mac : ∀ i, i < l.length → 0 ≤ (l.getD i (0, 0)).1 ∧ (l.getD i (0, 0)).1 < b.macs.length
  read : ∀ i, i < l.length → 0 ≤ (l.getD i (0, 0)).2 ∧ (l.getD i (0, 0)).2 ≤ 100000
  off : ∀ i, i < l.length → offB (b.macs.getD (l.getD i (0, 0)).1.toNat mac0) = false
theorem getD_mem' {α : Type} {l : List α} {i : Nat} {d : α} (h : i < l.length) : l.getD i d ∈ l := by
  simp only [List.getD, List.getElem?_eq_getElem h, Option.getD_some]; exact List.getElem_mem h
theorem u_6 (b : h_0) (l : List (Int × Int)) (s : h_2) : ∀ k, (d_5 b l s k).length = s.length
  | 0 => rfl
  | k + 1 => by rw [d_5, List.length_set]; exact u_6 b l s k
section
variable {b : h_0} {l : List (Int × Int)} {s : h_2}
def o_4 (b : h_0) (l : List (Int × Int)) (k : Nat) : Nat := (b.macs.getD (l.getD k (0, 0)).1.toNat mac0).scale.toNat
def rangeOf (b : h_0) (l : List (Int × Int)) (k : Nat) : Rng := ((l.getD k (0, 0)).2 - (e_5 (b.macs.getD (l.getD k (0, 0)).1.toNat mac0)).2, (l.getD k (0, 0)).2 - (e_5 (b.macs.getD (l.getD k (0, 0)).1.toNat mac0)).1)
theorem startU_succ (k : Nat) : d_5 b l s (k + 1) = (d_5 b l s k).set (o_4 b l k) (cutR (at' (d_5 b l s k) (o_4 b l k)) (rangeOf b l k)) := rfl
theorem t_6.macV (hb : l_3 b) (hl : t_6 b l) {k : Nat} (hk : k < l.length) : MacV b.scales (b.macs.getD (l.getD k (0, 0)).1.toNat mac0) := by
  have := hl.mac k hk
  exact hb.macs _ (getD_mem' (by omega))
theorem scale_lt (hb : l_3 b) (hl : t_6 b l) {k : Nat} (hk : k < l.length) : o_4 b l k < b.scales.toNat := by
  have := (hl.macV hb hk).scale
  unfold o_4; omega
theorem start_iff (hb : l_3 b) (hl : t_6 b l) {n : Nat} (hn : n = b.scales.toNat) (hs : n ≤ s.length) {s' : h_2} : ∀ k, k ≤ l.length → (Sub n s' (d_5 b l s k) ↔ Sub n s' s ∧ ∀ j, j < k → (rangeOf b l j).1 ≤ (at' s' (o_4 b l j)).1 ∧ (at' s' (o_4 b l j)).2 ≤ (rangeOf b l j).2)
  | 0, _ => ⟨fun h => ⟨h, fun j hj => absurd hj (Nat.not_lt_zero _)⟩, fun h => h.1⟩
  | k + 1, hk => by
    have ih := start_iff hb hl hn hs (s' := s') k (by omega)
    have hsc := scale_lt hb hl (k := k) (by omega)
    rw [startU_succ]
    have hlen := u_6 b l s k
    constructor
    · intro h
      have h1 : Sub n s' (d_5 b l s k) := fun i hi => by
        have := h i hi
        rw [at_set (by omega)] at this
        split at this
        · rename_i e; subst e; dsimp only [cutR] at this; omega
        · exact this
      have h2 := ih.1 h1
      refine ⟨h2.1, fun j hj => ?_⟩
      rcases Nat.lt_succ_iff_lt_or_eq.1 hj with g | g
      · exact h2.2 j g
      · subst g
        have := h (o_4 b l j) (by omega)
        rw [at_set (by omega), if_pos rfl] at this
        dsimp only [cutR] at this
        omega
    · rintro ⟨h1, h2⟩ i hi
      have h3 := ih.2 ⟨h1, fun j hj => h2 j (by omega)⟩
      rw [at_set (by omega)]
      split
      · rename_i e
        subst e
        have a := h3 _ hi
        have c := h2 k (by omega)
        dsimp only [cutR]
        omega
      · exact h3 i hi
theorem start_sub (hb : l_3 b) (hl : t_6 b l) {n : Nat} (hn : n = b.scales.toNat) (hs : n ≤ s.length) (k : Nat) (hk : k ≤ l.length) : Sub n (d_5 b l s k) s := ((start_iff hb hl hn hs k hk).1 (Sub.refl _ _)).1
theorem wide_free {n : Nat} {s : h_2} (hn : n ≤ 4) (hs : Sub n s e_9) (hout : ∀ j, n ≤ j → at' s j = at' e_9 j) : width s ≤ 400000 := by
  have each : ∀ i, i < 4 → wide (at' s i) ≤ 100000 := fun i hi => by
    have hr : at' e_9 i = rng0 := by
      match i, hi with
      | 0, _ => rfl
      | 1, _ => rfl
      | 2, _ => rfl
      | 3, _ => rfl
    by_cases h : i < n
    · have := hs i h
      rw [hr] at this
      have := wide_le this.1 this.2
      exact this
    · rw [hout i (by omega), hr]; exact Nat.le_refl _
  have := each 0 (by omega); have := each 1 (by omega); have := each 2 (by omega); have := each 3 (by omega)
  unfold width; omega
theorem start_out (hb : l_3 b) (hl : t_6 b l) {j : Nat} (hj : b.scales.toNat ≤ j) : ∀ k, k ≤ l.length → at' (d_5 b l s k) j = at' s j
  | 0, _ => rfl
  | k + 1, hk => by
    have := scale_lt hb hl (k := k) (by omega)
    rw [startU_succ, ← start_out hb hl hj k (by omega)]
    unfold at'
    have hne : o_4 b l k ≠ j := by omega
    simp [List.getD, hne]
theorem l_3.four (hb : l_3 b) : b.scales.toNat ≤ 4 := by have := hb.scales; omega
theorem l_3.natV (hb : l_3 b) : ∀ t ∈ b.tabs, TabV (b.scales.toNat : Nat) t := fun t ht => by
  have := hb.scales
  rw [show ((b.scales.toNat : Nat) : Int) = b.scales by omega]
  exact hb.tabs t ht
theorem l_3.orderV (hb : l_3 b) : ∀ t ∈ g_2 b.scales.toNat b.tabs, TabV (b.scales.toNat : Nat) t ∧ t ∈ b.tabs := fun t ht => ⟨hb.natV t (mem_order ht), mem_order ht⟩
theorem loop_start (hb : l_3 b) (hl : t_6 b l) (hf : Full b.scales.toNat (s_2 b l)) : Loop b.scales.toNat b.tabs (s_2 b l) (s_2 b l) :=
  ⟨u_6 b l e_9 _, hf, Ub.start⟩
theorem start_width (hb : l_3 b) (hl : t_6 b l) : width (s_2 b l) ≤ 400000 :=
  wide_free hb.four (start_sub hb hl rfl (by have := hb.four; exact this) _ (Nat.le_refl _)) fun _ hj => start_out hb hl hj _ (Nat.le_refl _)
theorem spans_is (hb : l_3 b) (hl : t_6 b l) : z_3 b.scales.toNat b.tabs (s_2 b l) (i_7 b l) := by
  unfold i_7
  split
  · rename_i hf
    have hf := s_5.1 hf
    exact spansK_is hb.four hb.orderV (fun t ht => order_mem (hb.natV t ht) ht) 400001 _ (loop_start hb hl hf) (by have := start_width hb hl; omega)
  · rename_i hf
    have : ∃ i, i < b.scales.toNat ∧ (at' (s_2 b l) i).2 < (at' (s_2 b l) i).1 := by
      refine Decidable.byContradiction fun hne => hf (s_5.2 fun i hi => ?_)
      exact Decidable.byContradiction fun hlt => hne ⟨i, hi, by omega⟩
    obtain ⟨i, hi, he⟩ := this
    exact Ub.start.none hi he
end
end Go.Hard

namespace Go.Hard
section
variable {n : Nat} {ts ts' : List TabD} {s0 s0' : h_2} {r r' : Option h_2}
theorem z_3.has {s : h_2} (h : z_3 n ts s0 r) (g : Sol n ts s0 s) : ∃ s', r = some s' ∧ s'.length = n ∧ Sub n s s' := by
 cases r with
 | none => exact absurd g (h s)
 | some s' => exact ⟨s', rfl, h.1, h.2.2 s g⟩
end
end Go.Hard

namespace Go.Hard
def inB (n lo hi : Int) : Bool := decide (lo ≤ n) && decide (n ≤ hi)
theorem h_4 {n lo hi : Int} : inB n lo hi = true ↔ lo ≤ n ∧ n ≤ hi := by unfold inB; simp only [Bool.and_eq_true, decide_eq_true_eq]
def allI (n : Nat) (p : Nat → Bool) : Bool := (List.range n).all p
theorem i_4 {n : Nat} {p : Nat → Bool} : allI n p = true ↔ ∀ i, i < n → p i = true := by
  unfold allI; simp only [List.all_eq_true, List.mem_range]
theorem allI_no {n k : Nat} {p : Nat → Bool} (hk : k < n) (h : p k = false) : allI n p = false := by
  cases hb : allI n p with
  | false => rfl
  | true => have := i_4.1 hb k hk; rw [h] at this; cases this
theorem allI_list {α : Type} {l : List α} {d : α} {p : α → Bool} : allI l.length (fun i => p (l.getD i d)) = true ↔ ∀ x ∈ l, p x = true := by
  rw [i_4]
  constructor
  · intro h x hx
    obtain ⟨i, hi, e⟩ := List.getElem_of_mem hx
    have := h i hi
    simp only [List.getD, List.getElem?_eq_getElem hi, Option.getD_some] at this
    rwa [e] at this
  · intro h i hi; exact h _ (getD_mem' hi)
def rowB (r : Int × Int) : Bool := inB r.1 1 100000 && inB r.2 1 100000
def ab_2 (t : TabD) : Bool := decide (ty t 0 < ty t 1)
def aa_7 (rises : Bool) (a b : Int × Int) : Bool := decide (a.1 < b.1) && !decide (b.2 = a.2) && (decide (a.2 < b.2) == rises)
def ac_5 (t : TabD) (i : Nat) : Int := match i with
  | 0 => -1
  | k + 1 => t.brk.getD k 0
def brkB (t : TabD) (i : Nat) : Bool := inB (t.brk.getD i 0) (ac_5 t i + 1) ((t.rows.length : Int) - 2)
def headB (n : Int) (t : TabD) : Bool := inB t.frm 0 (n - 1) && inB t.dst 0 (n - 1) && !decide (t.frm = t.dst) && inB t.err 0 1000 && decide (2 ≤ (t.rows.length : Int)) && allI t.rows.length fun i => rowB (t.rows.getD i (0, 0))
def tabB (n : Int) (t : TabD) : Bool := headB n t && (allI (t.rows.length - 1) fun i => aa_7 (ab_2 t) (t.rows.getD i (0, 0)) (t.rows.getD (i + 1) (0, 0))) && allI t.brk.length (brkB t)
def y_2 (r : Rng) : Bool := inB r.1 0 100000 && inB r.2 0 100000 && decide (r.1 ≤ r.2)
def blkB (x : Int × Int × Int) : Bool := y_2 (x.1, x.2.1) && inB x.2.2 0 100000
def macB (n : Int) (m : MacD) : Bool := inB m.scale 0 (n - 1) && allI m.blocks.length fun i => blkB (m.blocks.getD i (0, 0, 0))
def g_0 (b : h_0) : Int :=
  if 6 < b.tabs.length ∨ 6 < b.macs.length then 3
  else if allI b.tabs.length (fun i => decide ((b.tabs.getD i tab0).rows.length ≤ 8)) = false then 3
  else if allI b.macs.length (fun i => decide ((b.macs.getD i mac0).blocks.length ≤ 5)) = false then 3
  else if inB b.scales 1 4 = false ∨ allI b.tabs.length (fun i => tabB b.scales (b.tabs.getD i tab0)) = false ∨ allI b.macs.length (fun i => macB b.scales (b.macs.getD i mac0)) = false then 1
  else 0
theorem brk_ok {t : TabD} (h : allI t.brk.length (brkB t) = true) : ∀ i, i < t.brk.length → 0 ≤ t.brk.getD i 0 ∧ t.brk.getD i 0 ≤ (t.rows.length : Int) - 2 ∧ (0 < i → t.brk.getD (i - 1) 0 < t.brk.getD i 0) := by
  intro i
  have key := i_4.1 h
  induction i with
  | zero =>
    intro hi
    have := h_4.1 (key 0 hi)
    simp only [ac_5] at this
    exact ⟨by omega, by omega, fun h => absurd h (Nat.lt_irrefl _)⟩
  | succ i ih =>
    intro hi
    have a := ih (by omega)
    have b := h_4.1 (key (i + 1) hi)
    simp only [ac_5] at b
    exact ⟨by omega, by omega, fun _ => by show t.brk.getD i 0 < _; omega⟩
theorem tab_ok {n : Int} {t : TabD} (h : tabB n t = true) : TabV n t := by
  unfold tabB headB at h
  simp only [Bool.and_eq_true, h_4, Bool.not_eq_true', decide_eq_false_iff_not, decide_eq_true_eq] at h
  obtain ⟨⟨⟨⟨⟨⟨⟨h1, h2⟩, h3⟩, h4⟩, h5⟩, h6⟩, h7⟩, h8⟩ := h
  have h6 := i_4.1 h6
  have h7 := i_4.1 h7
  have hst : ∀ i, i + 1 < t.rows.length → tx t i < tx t (i + 1) ∧ ty t (i + 1) ≠ ty t i ∧ (ty t i < ty t (i + 1) ↔ ab_2 t = true) := fun i hi => by
    have := h7 i (by omega)
    unfold aa_7 at this
    simp only [Bool.and_eq_true, decide_eq_true_eq, Bool.not_eq_true', decide_eq_false_iff_not, beq_iff_eq] at this
    refine ⟨this.1.1, this.1.2, ?_⟩
    rw [← this.2, decide_eq_true_eq]; rfl
  refine ⟨by omega, by omega, h3, h4, by omega, fun i hi => ?_, ⟨fun i hi => (hst i hi).1, ?_⟩, fun b hb => ?_⟩
  · have := h6 i hi
    unfold rowB at this
    simp only [Bool.and_eq_true, h_4] at this
    exact this
  · cases hr : ab_2 t with
    | true => exact .inl fun i hi => (hst i hi).2.2.2 hr
    | false =>
      refine .inr fun i hi => ?_
      have a := hst i hi
      have : ¬ ty t i < ty t (i + 1) := fun h => by have := a.2.2.1 h; rw [hr] at this; cases this
      have := a.2.1
      omega
  · obtain ⟨i, hi, e⟩ := List.getElem_of_mem hb
    have := brk_ok h8 i hi
    simp only [List.getD, List.getElem?_eq_getElem hi, Option.getD_some] at this
    rw [e] at this
    exact ⟨this.1, this.2.1⟩
theorem mac_ok {n : Int} {m : MacD} (h : macB n m = true) : MacV n m := by
  unfold macB at h
  rw [Bool.and_eq_true, h_4, i_4] at h
  refine ⟨by omega, fun i hi => ?_⟩
  have := h.2 i hi
  unfold blkB y_2 at this
  simp only [Bool.and_eq_true, h_4, decide_eq_true_eq] at this
  omega
theorem x_5 {b : h_0} (h : g_0 b = 0) : l_3 b := by
  unfold g_0 at h
  split at h
  · cases h
  · rename_i h1
    split at h
    · cases h
    · rename_i h2
      split at h
      · cases h
      · rename_i h3
        split at h
        · cases h
        · rename_i h4
          simp only [not_or, Bool.not_eq_false] at h2 h3 h4
          have a := (allI_list (l := b.tabs) (d := tab0) (p := fun t => decide (t.rows.length ≤ 8))).1 h2
          have c := (allI_list (l := b.macs) (d := mac0) (p := fun m => decide (m.blocks.length ≤ 5))).1 h3
          have d := (allI_list (l := b.tabs) (d := tab0) (p := tabB b.scales)).1 h4.2.1
          have e := (allI_list (l := b.macs) (d := mac0) (p := macB b.scales)).1 h4.2.2
          have f := h_4.1 h4.1
          refine ⟨f, by omega, by omega, fun t ht => of_decide_eq_true (a t ht), fun m hm => of_decide_eq_true (c m hm), fun t ht => tab_ok (d t ht), fun m hm => mac_ok (e m hm)⟩
def u_9 (b : h_0) (r : Int × Int) : Bool := inB r.1 0 ((b.macs.length : Int) - 1) && inB r.2 0 100000
def n_5 (b : h_0) (l : List (Int × Int)) : Int :=
  if g_0 b ≠ 0 then g_0 b
  else if 8 < l.length then 3
  else if allI l.length (fun i => u_9 b (l.getD i (0, 0))) = false then 2
  else if allI l.length (fun i => !offB (b.macs.getD (l.getD i (0, 0)).1.toNat mac0)) = false then 11
  else 0
theorem z_7 {b : h_0} {l : List (Int × Int)} (h : n_5 b l = 0) : l_3 b ∧ t_6 b l := by
  unfold n_5 at h
  split at h
  · rename_i h1; exact absurd h h1
  · rename_i h1
    split at h
    · cases h
    · rename_i h2
      split at h
      · cases h
      · rename_i h3
        split at h
        · cases h
        · rename_i h4
          have h1 := Decidable.not_not.1 h1
          simp only [Bool.not_eq_false] at h3 h4
          have h3 := i_4.1 h3
          have h4 := i_4.1 h4
          have h5 : ∀ i, i < l.length → (0 ≤ (l.getD i (0, 0)).1 ∧ (l.getD i (0, 0)).1 ≤ (b.macs.length : Int) - 1) ∧ 0 ≤ (l.getD i (0, 0)).2 ∧ (l.getD i (0, 0)).2 ≤ 100000 := fun i hi => by
            have := h3 i hi
            unfold u_9 at this
            rwa [Bool.and_eq_true, h_4, h_4] at this
          refine ⟨x_5 h1, by omega, fun i hi => ?_, fun i hi => (h5 i hi).2, fun i hi => ?_⟩
          · have := h5 i hi; omega
          · have := h4 i hi
            rwa [Bool.not_eq_true'] at this
end Go.Hard

namespace Go.Hard
theorem mem_at {l : List Int} {i : Nat} {x : Int} (h : i < l.length) (e : x = l.getD i 0) : x ∈ l := by rw [e]; exact getD_mem' h
theorem any_mem {l : List Int} {x : Int} : (List.range l.length).any (fun i => decide (x = l.getD i 0)) = decide (x ∈ l) := by
  rw [Bool.eq_iff_iff, List.any_eq_true, decide_eq_true_eq]
  constructor
  · rintro ⟨i, hi, h⟩; exact mem_at (List.mem_range.1 hi) (of_decide_eq_true h)
  · intro h
    obtain ⟨i, hi, e⟩ := List.getElem_of_mem h
    refine ⟨i, List.mem_range.2 hi, decide_eq_true ?_⟩
    simp only [List.getD, List.getElem?_eq_getElem hi, Option.getD_some]; exact e.symm
theorem find_at {p : Nat → Bool} {n k : Nat} (hk : k < n) (h : ∀ i, i < k → p i = false) (hp : p k = true) : (List.range n).find? p = some k := by
  rw [List.find?_range_eq_some]
  exact ⟨hp, List.mem_range.2 hk, fun j hj => by simp [h j hj]⟩
theorem find_not {p : Nat → Bool} {n : Nat} (h : ∀ i, i < n → p i = false) : (List.range n).find? p = none := by
  rw [List.find?_eq_none]
  intro x hx; simp [h x (List.mem_range.1 hx)]
section
variable {t : TabD} {v : Int} {k : Nat}
theorem made_row (hk : k < t.rows.length) (h : ∀ i, i < k → ¬ tx t i = v) (e : tx t k = v) : s_7 t v = some (ty t k, ty t k) := by
  unfold s_7
  rw [find_at (p := atRow t v) hk (fun i hi => decide_eq_false (h i hi)) (decide_eq_true e)]
theorem made_piece (hn : ∀ i, i < t.rows.length → ¬ tx t i = v) (hk : k + 1 < t.rows.length) (h : ∀ i, i < k → m_4 t v i = false) (e : m_4 t v k = true) : s_7 t v = some (pieceR t v k) := by
  unfold s_7
  rw [find_not (p := atRow t v) fun i hi => decide_eq_false (hn i hi), find_at (show k < t.rows.length - 1 by omega) h e]
theorem made_no (hn : ∀ i, i < t.rows.length → ¬ tx t i = v) (h : ∀ i, i + 1 < t.rows.length → m_4 t v i = false) : s_7 t v = none := by
  unfold s_7
  rw [find_not (p := atRow t v) fun i hi => decide_eq_false (hn i hi), find_not (p := m_4 t v) fun i hi => h i (by omega)]
theorem piece_y (h1 : tx t k < v) (h2 : v < tx t (k + 1)) (h3 : ¬ broken t k) : m_4 t v k = true := by
  unfold m_4; simp only [Bool.and_eq_true, decide_eq_true_eq, Bool.not_eq_true', decide_eq_false_iff_not]; exact ⟨⟨h1, h2⟩, h3⟩
theorem v_9 (h : ¬ tx t k < v ∨ ¬ v < tx t (k + 1) ∨ broken t k) : m_4 t v k = false := by
  cases hb : m_4 t v k with
  | false => rfl
  | true =>
    unfold m_4 at hb
    simp only [Bool.and_eq_true, decide_eq_true_eq, Bool.not_eq_true', decide_eq_false_iff_not] at hb
    rcases h with h | h | h
    · exact absurd hb.1.1 h
    · exact absurd hb.1.2 h
    · exact absurd h hb.2
theorem piece_bds {n : Int} (hV : TabV n t) (hk : k + 1 < t.rows.length) (h1 : tx t k < v) (h2 : v < tx t (k + 1)) : (-100000000000 ≤ pieceN t v k ∧ pieceN t v k ≤ 100000000000) ∧ 0 < pieceD t k ∧ pieceD t k ≤ 100000 := by
  have a := hV.bnd k (by omega)
  have b := hV.bnd (k + 1) hk
  refine ⟨?_, by unfold pieceD; omega⟩
  unfold pieceN
  have c1 : 0 ≤ v - tx t k := by omega
  have c2 : v - tx t k ≤ 100000 := by omega
  have e1 : (v - tx t k) * (ty t (k + 1) - ty t k) ≤ (v - tx t k) * 100000 := Int.mul_le_mul_of_nonneg_left (by omega) c1
  have e2 : (v - tx t k) * (-100000) ≤ (v - tx t k) * (ty t (k + 1) - ty t k) := Int.mul_le_mul_of_nonneg_left (by omega) c1
  omega
end
def brB (t : TabD) (r : Rng) (j : Nat) : Bool := decide (r.2 ≤ tx t j) || decide (tx t (j + 1) ≤ r.1)
theorem all_list {l : List Int} {p : Int → Bool} : (List.range l.length).all (fun i => p (l.getD i 0)) = l.all p := by
  rw [Bool.eq_iff_iff, List.all_eq_true (p := p)]
  exact allI_list (l := l) (d := 0) (p := p)
theorem conv_n1 {t : TabD} {r : Rng} (h : r.1 < tx t 0) : r_7 t r = false := by
  cases hb : r_7 t r with
  | false => rfl
  | true => have := (w_3.1 hb).1; omega
theorem conv_n2 {t : TabD} {r : Rng} (h : tx t (t.rows.length - 1) < r.2) : r_7 t r = false := by
  cases hb : r_7 t r with
  | false => rfl
  | true => have := (w_3.1 hb).2.1; omega
theorem conv_y {t : TabD} {r : Rng} (h1 : ¬ r.1 < tx t 0) (h2 : ¬ tx t (t.rows.length - 1) < r.2) : r_7 t r = (List.range t.brk.length).all (fun i => brB t r (t.brk.getD i 0).toNat) := by
  rw [all_list (p := fun b => brB t r b.toNat)]
  unfold r_7
  rw [decide_eq_true (show tx t 0 ≤ r.1 by omega), decide_eq_true (show r.2 ≤ tx t (t.rows.length - 1) by omega)]
  rfl
def f_5 (t : TabD) (v : Int) : Rng := (s_7 t v).getD (0, 0)
theorem made_bd {n : Int} {t : TabD} {v lo hi : Int} (hV : TabV n t) (h : MadeT t v lo hi) : 1 ≤ lo ∧ lo ≤ hi ∧ hi ≤ 100000 := by
  rcases hV.rows.y with hy | hy
  · cases h with
    | row i hi' hx h1 h2 => have := hV.bnd i hi'; omega
    | piece i hi' ha hb hB h1 h2 =>
      have := piece_bd hV.rows.x hy hi' ha hb
      have a := hV.bnd i (by omega)
      have b := hV.bnd (i + 1) hi'
      omega
  · have hy' : ∀ i, i + 1 < t.rows.length → (fun i => -ty t i) i < (fun i => -ty t i) (i + 1) := fun i hi => by have := hy i hi; show -ty t i < -ty t (i + 1); omega
    have h' := x_8 h
    cases h' with
    | row i hi' hx h1 h2 => have := hV.bnd i hi'; omega
    | piece i hi' ha hb hB h1 h2 =>
      have := piece_bd hV.rows.x hy' hi' ha hb
      have a := hV.bnd i (by omega)
      have b := hV.bnd (i + 1) hi'
      omega
theorem madeV_bd {n : Int} {t : TabD} (hV : TabV n t) (v : Int) : (0 ≤ (f_5 t v).1 ∧ (f_5 t v).1 ≤ 100000) ∧ 0 ≤ (f_5 t v).2 ∧ (f_5 t v).2 ≤ 100000 := by
  unfold f_5
  cases h : s_7 t v with
  | none => exact ⟨⟨by decide, by decide⟩, by decide, by decide⟩
  | some r => have := made_bd hV (made_is h); rw [Option.getD_some]; omega
end Go.Hard

namespace Go.Hard
open Go.RowKit Go.Eng
def slsR (o : Bool) (n : Nat) (v : Nat → Value) (sz : Nat) (k : Nat → Nat) (c : Nat → List Value) : Res where
 S := fun b => ∃ i, i < n ∧ slFoot (v i) (c i) b
 p := fun w => ∀ i, i < n → SlAt w (v i) sz (k i) (c i)
 own := o
 stable := fun w w' h g i hi => (sl (v i) sz (k i) (c i)).stable w w' (h i hi) fun b hb => g b ⟨i, hi, hb⟩
 lt := fun w b h ⟨i, hi, hb⟩ => (sl (v i) sz (k i) (c i)).lt w b (h i hi) hb
def m_3 (ts : List TabD) (i : Nat) : Nat := (ts.getD i tab0).rows.length
def m_2 (ts : List TabD) (i : Nat) : List Value := pairs (ts.getD i tab0).rows
def brkN (ts : List TabD) (i : Nat) : Nat := (ts.getD i tab0).brk.length
def brkC (ts : List TabD) (i : Nat) : List Value := ints (ts.getD i tab0).brk
def blkN (ms : List MacD) (i : Nat) : Nat := (ms.getD i mac0).blocks.length
def blkC (ms : List MacD) (i : Nat) : List Value := trips (ms.getD i mac0).blocks
def tabC (lr lb : Nat → Value) (ts : List TabD) (i : Nat) : List Value := [.int .i64 (ts.getD i tab0).frm, .int .i64 (ts.getD i tab0).dst, lr i, lb i, .int .i64 (ts.getD i tab0).err]
def macC (lk : Nat → Value) (ms : List MacD) (i : Nat) : List Value := [.int .i64 (ms.getD i mac0).scale, lk i]
theorem tabC_len (lr lb : Nat → Value) (ts : List TabD) (i : Nat) : (tabC lr lb ts i).length = 5 := rfl
theorem macC_len (lk : Nat → Value) (ms : List MacD) (i : Nat) : (macC lk ms i).length = 2 := rfl
def n_6 (lr lb : Nat → Value) (ts : List TabD) : List Value := aa_6 ts.length (tabC lr lb ts)
def o_7 (lk : Nat → Value) (ms : List MacD) : List Value := aa_6 ms.length (macC lk ms)
structure j_6 (w : World) (v : Value) (lr lb : Nat → Value) (ts : List TabD) : Prop where
 tabs : SlAt w v 5 ts.length (n_6 lr lb ts)
 rows : ∀ i, i < ts.length → SlAt w (lr i) 2 (m_3 ts i) (m_2 ts i)
 brks : ∀ i, i < ts.length → SlAt w (lb i) 1 (brkN ts i) (brkC ts i)
structure k_4 (w : World) (v : Value) (lk : Nat → Value) (ms : List MacD) : Prop where
 macs : SlAt w v 2 ms.length (o_7 lk ms)
 blks : ∀ i, i < ms.length → SlAt w (lk i) 3 (blkN ms i) (blkC ms i)
def c_9 (o : Bool) (v : Value) (lr lb : Nat → Value) (ts : List TabD) : Res where
 S := fun b => slFoot v (n_6 lr lb ts) b ∨ (slsR o ts.length lr 2 (m_3 ts) (m_2 ts)).S b ∨ (slsR o ts.length lb 1 (brkN ts) (brkC ts)).S b
 p := fun w => j_6 w v lr lb ts
 own := o
 stable := fun w w' h k => ⟨(sl v 5 ts.length (n_6 lr lb ts)).stable w w' h.tabs fun b hb => k b (.inl hb), (slsR o ts.length lr 2 (m_3 ts) (m_2 ts)).stable w w' h.rows fun b hb => k b (.inr (.inl hb)), (slsR o ts.length lb 1 (brkN ts) (brkC ts)).stable w w' h.brks fun b hb => k b (.inr (.inr hb))⟩
 lt := fun w b h hb => by
  rcases hb with hb | hb | hb
  ·exact (sl v 5 ts.length (n_6 lr lb ts)).lt w b h.tabs hb
  ·exact (slsR o ts.length lr 2 (m_3 ts) (m_2 ts)).lt w b h.rows hb
  ·exact (slsR o ts.length lb 1 (brkN ts) (brkC ts)).lt w b h.brks hb
def d_2 (o : Bool) (v : Value) (lk : Nat → Value) (ms : List MacD) : Res where
 S := fun b => slFoot v (o_7 lk ms) b ∨ (slsR o ms.length lk 3 (blkN ms) (blkC ms)).S b
 p := fun w => k_4 w v lk ms
 own := o
 stable := fun w w' h k => ⟨(sl v 2 ms.length (o_7 lk ms)).stable w w' h.macs fun b hb => k b (.inl hb), (slsR o ms.length lk 3 (blkN ms) (blkC ms)).stable w w' h.blks fun b hb => k b (.inr hb)⟩
 lt := fun w b h hb => by
  rcases hb with hb | hb
  ·exact (sl v 2 ms.length (o_7 lk ms)).lt w b h.macs hb
  ·exact (slsR o ms.length lk 3 (blkN ms) (blkC ms)).lt w b h.blks hb
theorem b_6 {w : World} {o : Bool} {v : Value} {lr lb : Nat → Value} {ts : List TabD} (h : (c_9 o v lr lb ts).p w) : j_6 w v lr lb ts := h
theorem b_8 {w : World} {o : Bool} {v : Value} {lk : Nat → Value} {ms : List MacD} (h : (d_2 o v lk ms).p w) : k_4 w v lk ms := h
section
variable {lr lb lk : Nat → Value} {ts : List TabD} {ms : List MacD} {i : Nat}
theorem tabs_at2 (h : i < ts.length) : (n_6 lr lb ts)[i * 5 + 2]? = some (lr i) := flatI_at (tabC_len lr lb ts) h (k := 2) (by decide)
theorem tabs_at3 (h : i < ts.length) : (n_6 lr lb ts)[i * 5 + 3]? = some (lb i) := flatI_at (tabC_len lr lb ts) h (k := 3) (by decide)
theorem y_3 (h : i < ts.length) : ((n_6 lr lb ts).drop (i * 5)).take 5 = [.int .i64 (ts.getD i tab0).frm, .int .i64 (ts.getD i tab0).dst, lr i, lb i, .int .i64 (ts.getD i tab0).err] := flatI_all (tabC_len lr lb ts) h
theorem macs_at1 (h : i < ms.length) : (o_7 lk ms)[i * 2 + 1]? = some (lk i) := flatI_at (macC_len lk ms) h (k := 1) (by decide)
theorem x_7 (h : i < ms.length) : ((o_7 lk ms).drop (i * 2)).take 2 = [.int .i64 (ms.getD i mac0).scale, lk i] := flatI_all (macC_len lk ms) h
theorem j_6.row {w : World} {v : Value} (h : j_6 w v lr lb ts) (hi : i < ts.length) : SlAt w (lr i) 2 (ts.getD i tab0).rows.length (pairs (ts.getD i tab0).rows) := h.rows i hi
theorem j_6.brk {w : World} {v : Value} (h : j_6 w v lr lb ts) (hi : i < ts.length) : SlAt w (lb i) 1 (ts.getD i tab0).brk.length (ints (ts.getD i tab0).brk) := h.brks i hi
theorem k_4.blk {w : World} {v : Value} (h : k_4 w v lk ms) (hi : i < ms.length) : SlAt w (lk i) 3 (ms.getD i mac0).blocks.length (trips (ms.getD i mac0).blocks) := h.blks i hi
def putV (n : Nat) (v : Nat → Value) (u : Value) : Nat → Value := fun i => if i = n then u else v i
theorem x_9 (n : Nat) (v : Nat → Value) (u : Value) : putV n v u n = u := if_pos rfl
theorem y_0 {n i : Nat} (v : Nat → Value) (u : Value) (h : i < n) : putV n v u i = v i := if_neg (by omega)
theorem getD_old {α : Type} {l : List α} {x d : α} {i : Nat} (h : i < l.length) : (l ++ [x]).getD i d = l.getD i d := by simp [List.getD, List.getElem?_append_left h]
theorem getD_new {α : Type} {l : List α} {x d : α} : (l ++ [x]).getD l.length d = x := by simp [List.getD]
theorem tabs_snoc (t : TabD) (A B : Value) : n_6 lr lb ts ++ [.int .i64 t.frm, .int .i64 t.dst, A, B, .int .i64 t.err] = n_6 (putV ts.length lr A) (putV ts.length lb B) (ts ++ [t]) := by
 unfold n_6
 rw [List.length_append, List.length_singleton, o_5]
 congr 1
 ·exact u_1 fun i hi => by unfold tabC; rw [getD_old hi, y_0 _ _ hi, y_0 _ _ hi]
 unfold tabC; rw [getD_new, x_9, x_9]
theorem macs_snoc (m : MacD) (u : Value) : o_7 lk ms ++ [.int .i64 m.scale, u] = o_7 (putV ms.length lk u) (ms ++ [m]) := by
 unfold o_7
 rw [List.length_append, List.length_singleton, o_5]
 congr 1
 ·exact u_1 fun i hi => by unfold macC; rw [getD_old hi, y_0 _ _ hi]
 unfold macC; rw [getD_new, x_9]
end
theorem j_1 {k : IntKind} {a b : Int} (h : a = b) : Value.int k a = Value.int k b := by rw [h]
theorem callsI {P : Program} {f : FuncId} {args : Array Value} {w : World} {b' : Int} (k : Calls P f args w (Ret fun v w' => v = .int .i64 b' ∧ Ext NoB w w')) (b : Int) (h : b' = b) : Calls P f args w (Ret fun v w' => v = .int .i64 b ∧ Ext NoB w w') := by subst h; exact k
def minU (l : List Int) : Nat → Int
 | 0 => l.getD 0 0
 | k + 1 => min (minU l k) (l.getD (k + 1) 0)
def maxU (l : List Int) : Nat → Int
 | 0 => l.getD 0 0
 | k + 1 => max (maxU l k) (l.getD (k + 1) 0)
def ac_3 (n d : Int) : Int := n / d
def upF (n d : Int) : Int := -(-n / d)
theorem down_y {n d : Int} (hd : 0 < d) (h : n.tmod d < 0) : n.tdiv d - 1 = ac_3 n d := by
 unfold ac_3
 have F := Int.mul_tdiv_add_tmod n d
 have G := Int.mul_ediv_add_emod n d
 have C := Int.emod_nonneg n (show d ≠ 0 by omega)
 have D := Int.emod_lt_of_pos n hd
 have E := Int.lt_tmod_of_pos n hd
 have k : d * (n.tdiv d - 1 - n / d) = n % d - n.tmod d - d := by rw [Int.mul_sub, Int.mul_sub, Int.mul_one]; omega
 have A : d * (n.tdiv d - 1 - n / d) < d * 1 := by rw [k]; omega
 have B : d * (-1) < d * (n.tdiv d - 1 - n / d) := by rw [k]; omega
 have := Int.lt_of_mul_lt_mul_left A (by omega)
 have := Int.lt_of_mul_lt_mul_left B (by omega)
 omega
theorem down_n {n d : Int} (hd : 0 < d) (h : ¬ n.tmod d < 0) : n.tdiv d = ac_3 n d := by
 unfold ac_3
 have F := Int.mul_tdiv_add_tmod n d
 have G := Int.mul_ediv_add_emod n d
 have C := Int.emod_nonneg n (show d ≠ 0 by omega)
 have D := Int.emod_lt_of_pos n hd
 have E := Int.tmod_lt_of_pos n hd
 have k : d * (n.tdiv d - n / d) = n % d - n.tmod d := by rw [Int.mul_sub]; omega
 have A : d * (n.tdiv d - n / d) < d * 1 := by rw [k]; omega
 have B : d * (-1) < d * (n.tdiv d - n / d) := by rw [k]; omega
 have := Int.lt_of_mul_lt_mul_left A (by omega)
 have := Int.lt_of_mul_lt_mul_left B (by omega)
 omega
theorem trips_sub0 {xs : List (Int × Int × Int)} {i : Nat} (h : i < xs.length) : ((trips xs).drop (i * 3)).take 2 = [.int .i64 (xs.getD i (0, 0, 0)).1, .int .i64 (xs.getD i (0, 0, 0)).2.1] := by
 have := congrArg (·.take 2) (x_0 h)
 simpa [List.take_take] using this
end Go.Hard

namespace Go.Proofs.Ytohgladndklciaa
open Go.RowKit Go.Shelf Go.Eng Go.Hard
end Go.Proofs.Ytohgladndklciaa

namespace Go.Proofs.Ytohgladndklciaa
open Go.RowKit Go.Shelf Go.Eng Go.Hard
theorem en_47 : ∀ args w, (callFunc 47 args).run Try.prog w = .ok (.enter 47 args) w := enters_of Try.func47 (by kernel_rfl) rfl
theorem v_5 : ∀ args w, (callFunc 22 args).run Try.prog w = .ok (.enter 22 args) w := enters_of Try.func22 (by kernel_rfl) rfl
theorem p_6 : fldK Try.prog 30 0 = some 0 := by kernel_rfl
theorem ty_3 : tyK Try.prog 3 = some (false, 1) := by kernel_rfl
theorem en_70 : ∀ args w, (callFunc 70 args).run Try.prog w = .ok (.enter 70 args) w := enters_of Try.func70 (by kernel_rfl) rfl
theorem p_7 : fldK Try.prog 30 1 = some 1 := by kernel_rfl
theorem fd_27_0 : fldK Try.prog 27 0 = some 0 := by kernel_rfl
theorem en_53 : ∀ args w, (callFunc 53 args).run Try.prog w = .ok (.enter 53 args) w := enters_of Try.func53 (by kernel_rfl) rfl
theorem fd_27_1 : fldK Try.prog 27 1 = some 1 := by kernel_rfl
theorem j_5 : fldK Try.prog 107 0 = some 0 := by kernel_rfl
theorem m_1 : fldK Try.prog 107 1 = some 1 := by kernel_rfl
theorem aa_2 : (Try.prog.info? 30).bind (·.zero) = some (Value.agg #[(Value.int .i64 0), (Value.int .i64 0)]) := by kernel_rfl
theorem l_9 (x0_0 : Int) (x1_0 : Int) (w : World) : (Instr.build 30 #[(0, (.int .i64 x0_0)), (1, (.int .i64 x1_0))]).run Try.prog w = .ok (.agg #[(.int .i64 x0_0), (.int .i64 x1_0)]) w := by kernel_rfl
theorem g_5 : tyK Try.prog 30 = some (true, 2) := by kernel_rfl
theorem fd_157_0 : fldK Try.prog 157 0 = some 0 := by kernel_rfl
theorem fd_157_1 : fldK Try.prog 157 1 = some 1 := by kernel_rfl
theorem h_8 : Try.prog.underlying 44 = some (.slice 3) := by kernel_rfl
theorem en_104 : ∀ args w, (callFunc 104 args).run Try.prog w = .ok (.enter 104 args) w := enters_of Try.func104 (by kernel_rfl) rfl
theorem en_105 : ∀ args w, (callFunc 105 args).run Try.prog w = .ok (.enter 105 args) w := enters_of Try.func105 (by kernel_rfl) rfl
theorem ze_3 : (Try.prog.info? 3).bind (·.zero) = some (Value.int .i64 0) := by kernel_rfl
theorem mixed : Try.prog.follows .mixedOrders = true := by kernel_rfl
theorem v_2 (x0_0 : Int) (x1_0 : Int) : Instr.fill (fun i => some (i * 1, 1)) ((Array.range (2 * 1)).map ((Value.int .i64 0).cells[· % (Value.int .i64 0).cells.size]!)) [(0, (.int .i64 x0_0)), (1, (.int .i64 x1_0))] = some (([(.int .i64 x0_0), (.int .i64 x1_0)] : List Value).toArray) := by kernel_rfl
theorem en_80 : ∀ args w, (callFunc 80 args).run Try.prog w = .ok (.enter 80 args) w := enters_of Try.func80 (by kernel_rfl) rfl
theorem en_79 : ∀ args w, (callFunc 79 args).run Try.prog w = .ok (.enter 79 args) w := enters_of Try.func79 (by kernel_rfl) rfl
theorem ze_27 : (Try.prog.info? 27).bind (·.zero) = some (Value.agg #[(Value.int .i64 0), (Value.int .i64 0)]) := by kernel_rfl
theorem bd_27_0i_1i (x0_0 : Int) (x1_0 : Int) (w : World) : (Instr.build 27 #[(0, (.int .i64 x0_0)), (1, (.int .i64 x1_0))]).run Try.prog w = .ok (.agg #[(.int .i64 x0_0), (.int .i64 x1_0)]) w := by kernel_rfl
theorem ty_27 : tyK Try.prog 27 = some (true, 2) := by kernel_rfl
theorem bd_157_0i_1i (x0_0 : Int) (x1_0 : Int) (w : World) : (Instr.build 157 #[(0, (.int .i64 x0_0)), (1, (.int .i64 x1_0))]).run Try.prog w = .ok (.agg #[(.int .i64 x0_0), (.int .i64 x1_0)]) w := by kernel_rfl
theorem en_102 : ∀ args w, (callFunc 102 args).run Try.prog w = .ok (.enter 102 args) w := enters_of Try.func102 (by kernel_rfl) rfl
theorem n_9 (n lo hi : Int) (w : World) :
  Calls Try.prog 47 #[(Value.int .i64 n), (Value.int .i64 lo), (Value.int .i64 hi)] w (Ret fun v w' => v = .bool (inB n lo hi) ∧ w' = w) := by
 refine a_8 Try.func47 rfl fun R H => ?_
 replace H : Fr 15 [] [(0, (Value.int .i64 n)), (1, (Value.int .i64 lo)), (2, (Value.int .i64 hi))] R := H
 have h : Sep NoB w w [] := Sep.start _ _
 refine m2 ?_
 refine s1 H (a_1 rfl (evc _ _)) fun b J => ?_; clear H R
 refine n4 ?_
 refine s1 J (a_0 rfl (J.ev rfl)) fun c O => ?_; clear J b
 refine s1 O (a_0 rfl (O.ev rfl)) fun d I => ?_; clear O c
 refine s1 I (p_1 rfl (I.ev rfl) (I.ev rfl)) fun e P => ?_; clear I d
 refine s1 P (a_0 rfl (P.ev rfl)) fun a A => ?_; clear P e
 by_cases Q : lo ≤ n
 ·skip
  rw [decide_eq_true Q] at A
  refine s5 A (a_0 rfl (A.ev rfl)) fun S D => ?_; clear A a
  refine s5 D (a_0 rfl (D.ev rfl)) fun T B => ?_; clear D S
  refine s5 B (p_1 rfl (B.ev rfl) (B.ev rfl)) fun U C => ?_; clear B T
  refine s1 C (b_3 rfl (C.ev rfl) (C.ev rfl)) fun V E => ?_; clear C U
  refine s1 E (a_1 rfl (E.ev rfl)) fun f K => ?_; clear E V
  refine n1 ?_
  refine c_8 ?_
  refine a_9 K (.inl rfl) (a_2 K rfl (.tmp rfl)) ?_
  exact ⟨congrArg Value.bool (by unfold inB; simp [*]), rfl⟩
 skip
 rw [decide_eq_false Q] at A
 refine s3 A fun W L => ?_; clear A a
 refine s3 L fun X M => ?_; clear L W
 refine s3 M fun Y F => ?_; clear M X
 refine s1 F (c_2 rfl (F.ev rfl) (evc _ _)) fun Z G => ?_; clear F Y
 refine s1 G (a_1 rfl (G.ev rfl)) fun g N => ?_; clear G Z
 refine n1 ?_
 refine c_8 ?_
 refine a_9 N (.inl rfl) (a_2 N rfl (.tmp rfl)) ?_
 exact ⟨congrArg Value.bool (by unfold inB; simp [*]), rfl⟩
theorem v_4 (n lo hi : Int) (w : World) :
  Calls Try.prog 22 #[(Value.int .i64 n), (Value.int .i64 lo), (Value.int .i64 hi)] w (Ret fun v w' => v = .bool (inB n lo hi) ∧ w' = w) := by
 refine a_8 Try.func22 rfl fun R H => ?_
 replace H : Fr 15 [] [(0, (Value.int .i64 n)), (1, (Value.int .i64 lo)), (2, (Value.int .i64 hi))] R := H
 have h : Sep NoB w w [] := Sep.start _ _
 refine m2 ?_
 refine s1 H (a_1 rfl (evc _ _)) fun b J => ?_; clear H R
 refine n4 ?_
 refine s1 J (a_0 rfl (J.ev rfl)) fun c O => ?_; clear J b
 refine s1 O (a_0 rfl (O.ev rfl)) fun d I => ?_; clear O c
 refine s1 I (w_7 rfl (I.ev rfl) (I.ev rfl)) fun e P => ?_; clear I d
 refine s1 P (a_0 rfl (P.ev rfl)) fun a A => ?_; clear P e
 by_cases Q : lo ≤ n
 ·skip
  rw [decide_eq_true Q] at A
  refine s5 A (a_0 rfl (A.ev rfl)) fun S D => ?_; clear A a
  refine s5 D (a_0 rfl (D.ev rfl)) fun T B => ?_; clear D S
  refine s5 B (p_1 rfl (B.ev rfl) (B.ev rfl)) fun U C => ?_; clear B T
  refine s1 C (b_3 rfl (C.ev rfl) (C.ev rfl)) fun V E => ?_; clear C U
  refine s1 E (a_1 rfl (E.ev rfl)) fun f K => ?_; clear E V
  refine n1 ?_
  refine c_8 ?_
  refine a_9 K (.inl rfl) (a_2 K rfl (.tmp rfl)) ?_
  exact ⟨congrArg Value.bool (by unfold inB; simp [*]), rfl⟩
 skip
 rw [decide_eq_false Q] at A
 refine s3 A fun W L => ?_; clear A a
 refine s3 L fun X M => ?_; clear L W
 refine s3 M fun Y F => ?_; clear M X
 refine s1 F (c_2 rfl (F.ev rfl) (evc _ _)) fun Z G => ?_; clear F Y
 refine s1 G (a_1 rfl (G.ev rfl)) fun g N => ?_; clear G Z
 refine n1 ?_
 refine c_8 ?_
 refine a_9 N (.inl rfl) (a_2 N rfl (.tmp rfl)) ?_
 exact ⟨congrArg Value.bool (by unfold inB; simp [*]), rfl⟩
theorem value_ok (n : Int) (w : World) :
  Calls Try.prog 70 #[(Value.int .i64 n)] w (Ret fun v w' => v = .bool (inB n 0 100000) ∧ Ext NoB w w') := by
 refine a_8 Try.func70 rfl fun F A => ?_
 replace A : Fr 5 [] [(0, (Value.int .i64 n))] F := A
 have G : Sep NoB w w [] := Sep.start _ _
 refine m2 ?_
 refine s1 A (a_1 rfl (evc _ _)) fun H B => ?_; clear A F
 refine n4 ?_
 refine s1 B (a_0 rfl (B.ev rfl)) fun I C => ?_; clear B H
 refine s2 C (a_6 rfl en_47 (ev3 (C.ev rfl) (evc _ _) (evc _ _)) (n_9 _ _ _ _)) ?_
 rintro J _ W_ ⟨rfl, hW_⟩ D; have hW2_ := hW_.symm; subst hW2_; clear hW_ C I
 refine s1 D (a_1 rfl (D.ev rfl)) fun K E => ?_; clear D J
 refine n1 ?_
 refine c_8 ?_
 refine a_9 E (.inl rfl) (a_2 E rfl (.tmp rfl)) ?_
 exact ⟨rfl, G.ext⟩
theorem rvalue_ok (n : Int) (w : World) :
  Calls Try.prog 53 #[(Value.int .i64 n)] w (Ret fun v w' => v = .bool (inB n 0 100000) ∧ Ext NoB w w') := by
 refine a_8 Try.func53 rfl fun F A => ?_
 replace A : Fr 5 [] [(0, (Value.int .i64 n))] F := A
 have G : Sep NoB w w [] := Sep.start _ _
 refine m2 ?_
 refine s1 A (a_1 rfl (evc _ _)) fun H B => ?_; clear A F
 refine n4 ?_
 refine s1 B (a_0 rfl (B.ev rfl)) fun I C => ?_; clear B H
 refine s2 C (a_6 rfl v_5 (ev3 (C.ev rfl) (evc _ _) (evc _ _)) (v_4 _ _ _ _)) ?_
 rintro J _ W_ ⟨rfl, hW_⟩ D; have hW2_ := hW_.symm; subst hW2_; clear hW_ C I
 refine s1 D (a_1 rfl (D.ev rfl)) fun K E => ?_; clear D J
 refine n1 ?_
 refine c_8 ?_
 refine a_9 E (.inl rfl) (a_2 E rfl (.tmp rfl)) ?_
 exact ⟨rfl, G.ext⟩
theorem values_ok (s t : Int) (w : World) :
  Calls Try.prog 48 #[(Value.agg #[(Value.int .i64 s), (Value.int .i64 t)])] w (Ret fun v w' => v = .bool (y_2 (s, t)) ∧ Ext NoB w w') := by
 refine a_8 Try.func48 rfl fun a0 H => ?_
 replace H : Fr 18 [] [(0, (Value.agg #[(Value.int .i64 s), (Value.int .i64 t)]))] a0 := H
 have z : Sep NoB w w [] := Sep.start _ _
 refine m2 ?_
 refine s2 H (f_3 z rfl (H.ev rfl) (cs := [(Value.int .i64 s), (Value.int .i64 t)]) rfl) ?_
 rintro a1 _ w3 ⟨b4, rfl, r⟩ y; clear H z a0
 refine s1 y (a_1 rfl (evc _ _)) fun a6 h => ?_; clear y a1
 refine n4 ?_
 refine s1 h (a_4 rfl p_6 (h.ev rfl)) fun a8 o => ?_; clear h a6
 refine s1 o (a_3 rfl ty_3 (o.ev rfl) (r.bk 0 rfl) rfl) fun AB I => ?_; clear o a8
 refine s2 I (a_6 rfl en_70 (ev1 (I.ev rfl)) (value_ok _ _)) ?_
 rintro AC _ Ak ⟨rfl, p⟩ J; have F := r.step p; clear p I r AB
 refine s1 J (a_0 rfl (J.ev rfl)) fun u A => ?_; clear J AC
 rcases Bool.eq_false_or_eq_true ((inB s 0 100000)) with X | X
 ·skip
  rw [X] at A
  refine s5 A (a_4 rfl p_7 (A.ev rfl)) fun AD K => ?_; clear A u
  refine s5 K (a_3 rfl ty_3 (K.ev rfl) (F.bk 0 rfl) rfl) fun AE L => ?_; clear K AD
  refine s6 L (a_6 rfl en_70 (ev1 (L.ev rfl)) (value_ok _ _)) ?_
  rintro AF _ Al ⟨rfl, q⟩ C; have G := F.step q; clear q L F AE
  refine s1 C (b_3 rfl (C.ev rfl) (C.ev rfl)) fun AG M => ?_; clear C AF
  refine s1 M (a_0 rfl (M.ev rfl)) fun x B => ?_; clear M AG
  rcases Bool.eq_false_or_eq_true ((inB t 0 100000)) with Y | Y
  ·skip
   rw [Y] at B
   refine s5 B (a_4 rfl p_6 (B.ev rfl)) fun AH N => ?_; clear B x
   refine s5 N (a_3 rfl ty_3 (N.ev rfl) (G.bk 0 rfl) rfl) fun AI O => ?_; clear N AH
   refine s5 O (a_4 rfl p_7 (O.ev rfl)) fun AJ P => ?_; clear O AI
   refine s5 P (a_3 rfl ty_3 (P.ev rfl) (G.bk 0 rfl) rfl) fun AK D => ?_; clear P AJ
   refine s5 D (p_1 rfl (D.ev rfl) (D.ev rfl)) fun AL E => ?_; clear D AK
   refine s1 E (b_3 rfl (E.ev rfl) (E.ev rfl)) fun AM Q => ?_; clear E AL
   refine s1 Q (a_1 rfl (Q.ev rfl)) fun Ah Z => ?_; clear Q AM
   refine n1 ?_
   refine c_8 ?_
   refine a_9 Z (.inl rfl) (a_2 Z rfl (.tmp rfl)) ?_
   exact ⟨congrArg Value.bool (by unfold y_2; simp [*]), G.ext⟩
  skip
  rw [Y] at B
  refine s3 B fun AN a => ?_; clear B x
  refine s3 a fun AO b => ?_; clear a AN
  refine s3 b fun AP c => ?_; clear b AO
  refine s3 c fun AQ d => ?_; clear c AP
  refine s3 d fun AR R => ?_; clear d AQ
  refine s1 R (c_2 rfl (R.ev rfl) (evc _ _)) fun AS S => ?_; clear R AR
  refine s1 S (a_1 rfl (S.ev rfl)) fun Ai e => ?_; clear S AS
  refine n1 ?_
  refine c_8 ?_
  refine a_9 e (.inl rfl) (a_2 e rfl (.tmp rfl)) ?_
  exact ⟨congrArg Value.bool (by unfold y_2; simp [*]), G.ext⟩
 skip
 rw [X] at A
 refine s3 A fun AT f => ?_; clear A u
 refine s3 f fun AU g => ?_; clear f AT
 refine s3 g fun AV T => ?_; clear g AU
 refine s1 T (c_2 rfl (T.ev rfl) (evc _ _)) fun AW U => ?_; clear T AV
 refine s1 U (a_0 rfl (U.ev rfl)) fun AX i => ?_; clear U AW
 refine s3 i fun AY j => ?_; clear i AX
 refine s3 j fun AZ k => ?_; clear j AY
 refine s3 k fun Aa l => ?_; clear k AZ
 refine s3 l fun Ab m => ?_; clear l Aa
 refine s3 m fun Ac V => ?_; clear m Ab
 refine s1 V (c_2 rfl (V.ev rfl) (evc _ _)) fun Ad W => ?_; clear V Ac
 refine s1 W (a_1 rfl (W.ev rfl)) fun Aj n => ?_; clear W Ad
 refine n1 ?_
 refine c_8 ?_
 refine a_9 n (.inl rfl) (a_2 n rfl (.tmp rfl)) ?_
 exact ⟨congrArg Value.bool (by unfold y_2; simp [*]), F.ext⟩
theorem span_ok (s t : Int) (w : World) :
  Calls Try.prog 52 #[(Value.agg #[(Value.int .i64 s), (Value.int .i64 t)])] w (Ret fun v w' => v = .bool (y_2 (s, t)) ∧ Ext NoB w w') := by
 refine a_8 Try.func52 rfl fun a0 H => ?_
 replace H : Fr 18 [] [(0, (Value.agg #[(Value.int .i64 s), (Value.int .i64 t)]))] a0 := H
 have z : Sep NoB w w [] := Sep.start _ _
 refine m2 ?_
 refine s2 H (f_3 z rfl (H.ev rfl) (cs := [(Value.int .i64 s), (Value.int .i64 t)]) rfl) ?_
 rintro a1 _ w3 ⟨b4, rfl, r⟩ y; clear H z a0
 refine s1 y (a_1 rfl (evc _ _)) fun a6 h => ?_; clear y a1
 refine n4 ?_
 refine s1 h (a_4 rfl fd_27_0 (h.ev rfl)) fun a8 o => ?_; clear h a6
 refine s1 o (a_3 rfl ty_3 (o.ev rfl) (r.bk 0 rfl) rfl) fun AB I => ?_; clear o a8
 refine s2 I (a_6 rfl en_53 (ev1 (I.ev rfl)) (rvalue_ok _ _)) ?_
 rintro AC _ Ak ⟨rfl, p⟩ J; have F := r.step p; clear p I r AB
 refine s1 J (a_0 rfl (J.ev rfl)) fun u A => ?_; clear J AC
 rcases Bool.eq_false_or_eq_true ((inB s 0 100000)) with X | X
 ·skip
  rw [X] at A
  refine s5 A (a_4 rfl fd_27_1 (A.ev rfl)) fun AD K => ?_; clear A u
  refine s5 K (a_3 rfl ty_3 (K.ev rfl) (F.bk 0 rfl) rfl) fun AE L => ?_; clear K AD
  refine s6 L (a_6 rfl en_53 (ev1 (L.ev rfl)) (rvalue_ok _ _)) ?_
  rintro AF _ Al ⟨rfl, q⟩ C; have G := F.step q; clear q L F AE
  refine s1 C (b_3 rfl (C.ev rfl) (C.ev rfl)) fun AG M => ?_; clear C AF
  refine s1 M (a_0 rfl (M.ev rfl)) fun x B => ?_; clear M AG
  rcases Bool.eq_false_or_eq_true ((inB t 0 100000)) with Y | Y
  ·skip
   rw [Y] at B
   refine s5 B (a_4 rfl fd_27_0 (B.ev rfl)) fun AH N => ?_; clear B x
   refine s5 N (a_3 rfl ty_3 (N.ev rfl) (G.bk 0 rfl) rfl) fun AI O => ?_; clear N AH
   refine s5 O (a_4 rfl fd_27_1 (O.ev rfl)) fun AJ P => ?_; clear O AI
   refine s5 P (a_3 rfl ty_3 (P.ev rfl) (G.bk 0 rfl) rfl) fun AK D => ?_; clear P AJ
   refine s5 D (p_1 rfl (D.ev rfl) (D.ev rfl)) fun AL E => ?_; clear D AK
   refine s1 E (b_3 rfl (E.ev rfl) (E.ev rfl)) fun AM Q => ?_; clear E AL
   refine s1 Q (a_1 rfl (Q.ev rfl)) fun Ah Z => ?_; clear Q AM
   refine n1 ?_
   refine c_8 ?_
   refine a_9 Z (.inl rfl) (a_2 Z rfl (.tmp rfl)) ?_
   exact ⟨congrArg Value.bool (by unfold y_2; simp [*]), G.ext⟩
  skip
  rw [Y] at B
  refine s3 B fun AN a => ?_; clear B x
  refine s3 a fun AO b => ?_; clear a AN
  refine s3 b fun AP c => ?_; clear b AO
  refine s3 c fun AQ d => ?_; clear c AP
  refine s3 d fun AR R => ?_; clear d AQ
  refine s1 R (c_2 rfl (R.ev rfl) (evc _ _)) fun AS S => ?_; clear R AR
  refine s1 S (a_1 rfl (S.ev rfl)) fun Ai e => ?_; clear S AS
  refine n1 ?_
  refine c_8 ?_
  refine a_9 e (.inl rfl) (a_2 e rfl (.tmp rfl)) ?_
  exact ⟨congrArg Value.bool (by unfold y_2; simp [*]), G.ext⟩
 skip
 rw [X] at A
 refine s3 A fun AT f => ?_; clear A u
 refine s3 f fun AU g => ?_; clear f AT
 refine s3 g fun AV T => ?_; clear g AU
 refine s1 T (c_2 rfl (T.ev rfl) (evc _ _)) fun AW U => ?_; clear T AV
 refine s1 U (a_0 rfl (U.ev rfl)) fun AX i => ?_; clear U AW
 refine s3 i fun AY j => ?_; clear i AX
 refine s3 j fun AZ k => ?_; clear j AY
 refine s3 k fun Aa l => ?_; clear k AZ
 refine s3 l fun Ab m => ?_; clear l Aa
 refine s3 m fun Ac V => ?_; clear m Ab
 refine s1 V (c_2 rfl (V.ev rfl) (evc _ _)) fun Ad W => ?_; clear V Ac
 refine s1 W (a_1 rfl (W.ev rfl)) fun Aj n => ?_; clear W Ad
 refine n1 ?_
 refine c_8 ?_
 refine a_9 n (.inl rfl) (a_2 n rfl (.tmp rfl)) ?_
 exact ⟨congrArg Value.bool (by unfold y_2; simp [*]), F.ext⟩
theorem empty_ok (J K : Int) (w : World) :
  Calls Try.prog 68 #[(Value.agg #[(Value.int .i64 J), (Value.int .i64 K)])] w (Ret fun v w' => v = .bool (decide (K < J)) ∧ Ext NoB w w') := by
 refine a_8 Try.func68 rfl fun N B => ?_
 replace B : Fr 8 [] [(0, (Value.agg #[(Value.int .i64 J), (Value.int .i64 K)]))] N := B
 have M : Sep NoB w w [] := Sep.start _ _
 refine m2 ?_
 refine s2 B (f_3 M rfl (B.ev rfl) (cs := [(Value.int .i64 J), (Value.int .i64 K)]) rfl) ?_
 rintro S _ X ⟨W, rfl, I⟩ L; clear B M N
 refine s1 L (a_1 rfl (evc _ _)) fun T G => ?_; clear L S
 refine n4 ?_
 refine s1 G (a_4 rfl p_6 (G.ev rfl)) fun U H => ?_; clear G T
 refine s1 H (a_3 rfl ty_3 (H.ev rfl) (I.bk 0 rfl) rfl) fun O C => ?_; clear H U
 refine s1 C (a_4 rfl p_7 (C.ev rfl)) fun P D => ?_; clear C O
 refine s1 D (a_3 rfl ty_3 (D.ev rfl) (I.bk 0 rfl) rfl) fun Q A => ?_; clear D P
 refine s1 A (g_9 rfl (A.ev rfl) (A.ev rfl)) fun R E => ?_; clear A Q
 refine s1 E (a_1 rfl (E.ev rfl)) fun V F => ?_; clear E R
 refine n1 ?_
 refine c_8 ?_
 refine a_9 F (.inl rfl) (a_2 F rfl (.tmp rfl)) ?_
 exact ⟨rfl, I.ext⟩
theorem row_ok (S T : Int) (w : World) :
  Calls Try.prog 95 #[(Value.agg #[(Value.int .i64 S), (Value.int .i64 T)])] w (Ret fun v w' => v = .bool (rowB (S, T)) ∧ Ext NoB w w') := by
 refine a_8 Try.func95 rfl fun X C => ?_
 replace C : Fr 11 [] [(0, (Value.agg #[(Value.int .i64 S), (Value.int .i64 T)]))] X := C
 have W : Sep NoB w w [] := Sep.start _ _
 refine m2 ?_
 refine s2 C (f_3 W rfl (C.ev rfl) (cs := [(Value.int .i64 S), (Value.int .i64 T)]) rfl) ?_
 rintro i _ o ⟨n, rfl, L⟩ V; clear C W X
 refine s1 V (a_1 rfl (evc _ _)) fun j Q => ?_; clear V i
 refine n4 ?_
 refine s1 Q (a_4 rfl j_5 (Q.ev rfl)) fun k R => ?_; clear Q j
 refine s1 R (a_3 rfl ty_3 (R.ev rfl) (L.bk 0 rfl) rfl) fun Y D => ?_; clear R k
 refine s2 D (a_6 rfl en_47 (ev3 (D.ev rfl) (evc _ _) (evc _ _)) (n_9 _ _ _ _)) ?_
 rintro Z _ W_ ⟨rfl, hW_⟩ E; have hW2_ := hW_.symm; subst hW2_; clear hW_ D Y
 refine s1 E (a_0 rfl (E.ev rfl)) fun U A => ?_; clear E Z
 rcases Bool.eq_false_or_eq_true ((inB S 1 100000)) with K | K
 ·skip
  rw [K] at A
  refine s5 A (a_4 rfl m_1 (A.ev rfl)) fun a F => ?_; clear A U
  refine s5 F (a_3 rfl ty_3 (F.ev rfl) (L.bk 0 rfl) rfl) fun b G => ?_; clear F a
  refine s6 G (a_6 rfl en_47 (ev3 (G.ev rfl) (evc _ _) (evc _ _)) (n_9 _ _ _ _)) ?_
  rintro c _ W_ ⟨rfl, hW_⟩ B; have hW2_ := hW_.symm; subst hW2_; clear hW_ G b
  refine s1 B (b_3 rfl (B.ev rfl) (B.ev rfl)) fun d H => ?_; clear B c
  refine s1 H (a_1 rfl (H.ev rfl)) fun l M => ?_; clear H d
  refine n1 ?_
  refine c_8 ?_
  refine a_9 M (.inl rfl) (a_2 M rfl (.tmp rfl)) ?_
  exact ⟨congrArg Value.bool (by unfold rowB; simp [*]), L.ext⟩
 skip
 rw [K] at A
 refine s3 A fun e N => ?_; clear A U
 refine s3 N fun f O => ?_; clear N e
 refine s3 O fun g I => ?_; clear O f
 refine s1 I (c_2 rfl (I.ev rfl) (evc _ _)) fun h J => ?_; clear I g
 refine s1 J (a_1 rfl (J.ev rfl)) fun m P => ?_; clear J h
 refine n1 ?_
 refine c_8 ?_
 refine a_9 P (.inl rfl) (a_2 P rfl (.tmp rfl)) ?_
 exact ⟨congrArg Value.bool (by unfold rowB; simp [*]), L.ext⟩
theorem to_ok (E F : Int) (w : World) :
  Calls Try.prog 20 #[(Value.agg #[(Value.int .i64 E), (Value.int .i64 F)])] w (Ret fun v w' => v = .agg #[.int .i64 E, .int .i64 F] ∧ Ext NoB w w') := by
 refine a_8 Try.func20 rfl fun Q D => ?_
 replace D : Fr 8 [] [(0, (Value.agg #[(Value.int .i64 E), (Value.int .i64 F)]))] Q := D
 have O : Sep NoB w w [] := Sep.start _ _
 refine m2 ?_
 refine s2 D (f_3 O rfl (D.ev rfl) (cs := [(Value.int .i64 E), (Value.int .i64 F)]) rfl) ?_
 rintro W _ b ⟨Y, rfl, P⟩ N; clear D O Q
 refine s2 N (e_4 P rfl aa_2 (cs := [(Value.int .i64 0), (Value.int .i64 0)]) rfl) ?_
 rintro X _ c ⟨Z, rfl, C⟩ K; clear N P W
 refine n4 ?_
 refine s1 K (a_4 rfl fd_27_0 (K.ev rfl)) fun R G => ?_; clear K X
 refine s1 G (a_3 rfl ty_3 (G.ev rfl) (C.bk 1 rfl) rfl) fun S H => ?_; clear G R
 refine s1 H (a_4 rfl fd_27_1 (H.ev rfl)) fun T I => ?_; clear H S
 refine s1 I (a_3 rfl ty_3 (I.ev rfl) (C.bk 1 rfl) rfl) fun U A => ?_; clear I T
 refine s1 A (e_7 rfl (pv2 (A.ev rfl) (A.ev rfl)) (l_9 _ _)) fun a B => ?_; clear A U
 refine s7 B (c_5 C rfl g_5 (B.ev rfl) (B.ev rfl) (i := 0) rfl (vs := [(Value.int .i64 E), (Value.int .i64 F)]) rfl rfl rfl (Nat.le_of_ble_eq_true rfl)) ?_
 intro _ V L J; clear B
 have M : Sep NoB w V [(blk Z 30 [(Value.int .i64 E), (Value.int .i64 F)]), (blk Y 27 [(Value.int .i64 E), (Value.int .i64 F)])] := L; clear L C
 refine n1 ?_
 refine c_8 ?_
 refine a_9 J (.inl rfl) (a_2 J rfl (.cellA rfl g_5 (M.bk 0 rfl) (l := [(Value.int .i64 E), (Value.int .i64 F)]) rfl rfl)) ?_
 exact ⟨rfl, M.ext⟩
theorem n_0 (a b : Int) (w : World) :
  Calls Try.prog 31 #[(Value.int .i64 a), (Value.int .i64 b)] w (Ret fun v w' => v = .agg #[.int .i64 a, .int .i64 b] ∧ Ext NoB w w') := by
 refine a_8 Try.func31 rfl fun K B => ?_
 replace B : Fr 8 [] [(0, (Value.int .i64 a)), (1, (Value.int .i64 b))] K := B
 have I : Sep NoB w w [] := Sep.start _ _
 refine m2 ?_
 refine s2 B (e_4 I rfl aa_2 (cs := [(Value.int .i64 0), (Value.int .i64 0)]) rfl) ?_
 rintro M _ R ⟨P, rfl, J⟩ E; clear B I K
 refine n4 ?_
 refine s1 E (a_0 rfl (E.ev rfl)) fun N F => ?_; clear E M
 refine s1 F (a_0 rfl (F.ev rfl)) fun O C => ?_; clear F N
 refine s1 C (e_7 rfl (pv2 (C.ev rfl) (C.ev rfl)) (l_9 _ _)) fun Q A => ?_; clear C O
 refine s7 A (c_5 J rfl g_5 (A.ev rfl) (A.ev rfl) (i := 0) rfl (vs := [(Value.int .i64 a), (Value.int .i64 b)]) rfl rfl rfl (Nat.le_of_ble_eq_true rfl)) ?_
 intro _ L G D; clear A
 have H : Sep NoB w L [(blk P 30 [(Value.int .i64 a), (Value.int .i64 b)])] := G; clear G J
 refine n1 ?_
 refine c_8 ?_
 refine a_9 D (.inl rfl) (a_2 D rfl (.cellA rfl g_5 (H.bk 0 rfl) (l := [(Value.int .i64 a), (Value.int .i64 b)]) rfl rfl)) ?_
 exact ⟨rfl, H.ext⟩
theorem tdiv_bd {n d : Int} (hn : -100000000000 ≤ n ∧ n ≤ 100000000000) (hd : 0 < d ∧ d ≤ 100000) : -100000000000 ≤ n.tdiv d ∧ n.tdiv d ≤ 100000000000 := by
 have a := Int.natAbs_tdiv_le_natAbs n d
 omega
theorem down_ok (n d : Int) (w : World) (hn : -100000000000 ≤ n ∧ n ≤ 100000000000) (hd : 0 < d ∧ d ≤ 100000) :
  Calls Try.prog 102 #[(Value.agg #[(Value.int .i64 n), (Value.int .i64 d)])] w (Ret fun v w' => v = .int .i64 (ac_3 n d) ∧ Ext NoB w w') := by
 refine a_8 Try.func102 rfl fun e E => ?_
 replace E : Fr 18 [] [(0, (Value.agg #[(Value.int .i64 n), (Value.int .i64 d)]))] e := E
 have hq := tdiv_bd hn hd
 have c : Sep NoB w w [] := Sep.start _ _
 refine m2 ?_
 refine s2 E (f_3 c rfl (E.ev rfl) (cs := [(Value.int .i64 n), (Value.int .i64 d)]) rfl) ?_
 rintro x _ w3 ⟨b4, rfl, B⟩ b; clear E c e
 refine s1 b (a_1 rfl (evc _ _)) fun y X => ?_; clear b x
 refine n4 ?_
 refine s1 X (a_4 rfl fd_157_0 (X.ev rfl)) fun z Y => ?_; clear X y
 refine s1 Y (a_3 rfl ty_3 (Y.ev rfl) (B.bk 0 rfl) rfl) fun f F => ?_; clear Y z
 refine s1 F (a_4 rfl fd_157_1 (F.ev rfl)) fun g G => ?_; clear F f
 refine s1 G (a_3 rfl ty_3 (G.ev rfl) (B.bk 0 rfl) rfl) fun h C => ?_; clear G g
 refine s1 C (op_quo rfl (C.ev rfl) (C.ev rfl) (by omega) (by omega) (by omega)) fun i H => ?_; clear C h
 refine s1 H (a_1 rfl (H.ev rfl)) fun j U => ?_; clear H i
 refine n2 ?_
 refine b_7 ?_
 have I := U.as [(3, (Value.int .i64 ((n).tdiv d))), (1, (bptr b4 0))] rfl; clear U
 refine a_5 ?_
 refine s1 I (a_4 rfl fd_157_0 (I.ev rfl)) fun k J => ?_; clear I j
 refine s1 J (a_3 rfl ty_3 (J.ev rfl) (B.bk 0 rfl) rfl) fun l K => ?_; clear J k
 refine s1 K (a_4 rfl fd_157_1 (K.ev rfl)) fun m L => ?_; clear K l
 refine s1 L (a_3 rfl ty_3 (L.ev rfl) (B.bk 0 rfl) rfl) fun o D => ?_; clear L m
 refine s1 D (op_rem rfl (D.ev rfl) (D.ev rfl) (by omega)) fun p M => ?_; clear D o
 refine s1 M (f_9 rfl (M.ev rfl) (evc _ _)) fun a A => ?_; clear M p
 refine n1 ?_
 by_cases Z : ((n).tmod d) < 0
 ·skip
  rw [decide_eq_true Z] at A
  refine c_6 A rfl ?_
  have N := A.as [(3, (Value.int .i64 ((n).tdiv d)))] rfl; clear A
  refine a_5 ?_
  refine s1 N (a_0 rfl (N.ev rfl)) fun q O => ?_; clear N a
  refine s1 O (g_1 rfl (O.ev rfl) (evc _ _) (by omega) (by omega)) fun r P => ?_; clear O q
  refine s1 P (a_1 rfl (P.ev rfl)) fun s Q => ?_; clear P r
  refine n4 ?_
  refine s1 Q (a_0 rfl (Q.ev rfl)) fun t R => ?_; clear Q s
  refine s1 R (a_1 rfl (R.ev rfl)) fun AB V => ?_; clear R t
  refine n1 ?_
  refine c_8 ?_
  refine a_9 V (.inl rfl) (a_2 V rfl (.tmp rfl)) ?_
  exact ⟨j_1 (by first | exact down_y hd.1 (by assumption) | exact down_n hd.1 (by assumption)), B.ext⟩
 skip
 rw [decide_eq_false Z] at A
 refine b_5 A rfl ?_
 refine d_1 ?_
 refine b_0 ?_
 refine b_7 ?_
 have S := A.as [(3, (Value.int .i64 ((n).tdiv d)))] rfl; clear A
 refine a_5 ?_
 refine s1 S (a_0 rfl (S.ev rfl)) fun u T => ?_; clear S a
 refine s1 T (a_1 rfl (T.ev rfl)) fun AC W => ?_; clear T u
 refine n1 ?_
 refine c_8 ?_
 refine a_9 W (.inl rfl) (a_2 W rfl (.tmp rfl)) ?_
 exact ⟨j_1 (by first | exact down_y hd.1 (by assumption) | exact down_n hd.1 (by assumption)), B.ext⟩
theorem min_ok (xs : List Int) (v : Value) (w : World) (hv : SlAt w v 1 xs.length (ints xs)) (h1 : 1 ≤ xs.length) (hlen : xs.length ≤ 1000) :
  Calls Try.prog 104 #[v] w (Ret fun v w' => v = .int .i64 (minU xs (xs.length - 1)) ∧ Ext NoB w w') := by
 refine a_8 Try.func104 rfl fun m X => ?_
 replace X : Fr 25 [] [(0, v)] m := X
 have H : Sep NoB w w [(sl v 1 xs.length (ints xs))] := f_0 ⟨rfl, hv, trivial⟩
 refine m2 ?_
 refine s1 X (a_1 rfl (evc _ _)) fun a1 a => ?_; clear X m
 refine n2 ?_
 refine m2 ?_
 refine s1 a (a_0 rfl (a.ev rfl)) fun a3 d => ?_; clear a a1
 refine s1 d (c_0 rfl h_8 (d.ev rfl) (H.ok 0 _ rfl)) fun a5 f => ?_; clear d a3
 refine s1 f (f_9 rfl (f.ev rfl) (evc _ _)) fun a7 F => ?_; clear f a5
 have AI : ¬ ((xs.length : Int) < 1) := (by omega)
 rw [decide_eq_false AI] at F
 refine n1 ?_
 refine b_5 F rfl ?_
 refine d_1 ?_
 refine b_0 ?_
 refine m2 ?_
 refine s1 F (a_0 rfl (F.ev rfl)) fun n I => ?_; clear F a7
 refine s1 I (b_2 rfl h_8 ty_3 (I.ev rfl) (i := 0) (show _ = Value.int .i64 ((0 : Nat) : Int) from (evc _ _)) (H.ok 0 _ rfl) (by decide) (by omega)) fun o J => ?_; clear I n
 refine s1 J (c_7 rfl ty_3 (J.ev rfl) (H.ok 0 _ rfl) (ints_at (by omega))) fun p K => ?_; clear J o
 refine s1 K (a_1 rfl (K.ev rfl)) fun q Y => ?_; clear K p
 refine n2 ?_
 refine b_7 ?_
 have Z := Y.as [(3, (Value.int .i64 (xs.getD 0 0))), (0, v)] rfl; clear Y
 refine a_5 ?_
 refine s1 Z (a_1 rfl (evc _ _)) fun r b => ?_; clear Z q
 refine n1 ?_
 refine d_0 ?_
 have c := b.as [(4, (Value.int .i64 1)), (3, (Value.int .i64 (xs.getD 0 0))), (0, v)] rfl; clear b
 refine h_3 (G := Nat) (fun (k : Nat) a_ w_ => Fr 25 [] [(4, (Value.int .i64 ((k + 1 : Nat) : Int))), (3, (Value.int .i64 (minU xs k))), (0, v)] a_ ∧ Sep NoB w w_ [(sl v 1 xs.length (ints xs))] ∧ (k + 1 ≤ xs.length)) (fun k => xs.length - k) 0 ⟨c.as _ rfl, H, h1⟩ ?_
 clear c H r
 rintro k s AQ ⟨L, B, hk⟩
 refine b_7 ?_
 refine m2 ?_
 refine s1 L (a_0 rfl (L.ev rfl)) fun t M => ?_; clear L s
 refine s1 M (a_0 rfl (M.ev rfl)) fun u N => ?_; clear M t
 refine s1 N (c_0 rfl h_8 (N.ev rfl) (B.ok 0 _ rfl)) fun x C => ?_; clear N u
 refine s1 C (f_9 rfl (C.ev rfl) (C.ev rfl)) fun j A => ?_; clear C x
 refine n1 ?_
 by_cases h : ((k + 1 : Nat) : Int) < (xs.length : Int)
 ·skip
  rw [decide_eq_true h] at A
  refine c_6 A rfl ?_
  refine d_1 ?_
  refine b_0 ?_
  refine b_7 ?_
  refine d_0 ?_
  refine a_5 ?_
  refine s1 A (a_0 rfl (A.ev rfl)) fun y O => ?_; clear A j
  refine s1 O (a_0 rfl (O.ev rfl)) fun z P => ?_; clear O y
  refine s1 P (a_0 rfl (P.ev rfl)) fun AA D => ?_; clear P z
  refine s1 D (b_2 rfl h_8 ty_3 (D.ev rfl) (i := (k + 1 : Nat)) (D.ev rfl) (B.ok 0 _ rfl) (by decide) (by omega)) fun AB Q => ?_; clear D AA
  refine s1 Q (c_7 rfl ty_3 (Q.ev rfl) (B.ok 0 _ rfl) (ints_at (by omega))) fun AC E => ?_; clear Q AB
  refine s1 E (op_min rfl (E.ev rfl) (E.ev rfl)) fun AD R => ?_; clear E AC
  refine s1 R (a_1 rfl (R.ev rfl)) fun AE e => ?_; clear R AD
  refine e_8 ?_
  refine g_8 ?_
  refine b_0 ?_
  have S := e.as [(3, (Value.int .i64 (min (minU xs k) (xs.getD (k + 1 : Nat) 0)))), (4, (Value.int .i64 ((k + 1 : Nat) : Int))), (0, v)] rfl; clear e
  refine a_5 ?_
  refine s1 S (a_0 rfl (S.ev rfl)) fun AF T => ?_; clear S AE
  refine s1 T (f_6 rfl (T.ev rfl) (evc _ _) (by omega) (by omega)) fun AG U => ?_; clear T AF
  refine s1 U (a_1 rfl (U.ev rfl)) fun AO l => ?_; clear U AG
  refine e_8 ?_
  exact b_0 ⟨k + 1, ⟨l.as _ rfl, B, by omega⟩, by omega⟩
 skip
 rw [decide_eq_false h] at A
 refine b_5 A rfl ?_
 refine h_1 ?_
 refine b_4 ?_
 refine b_4 ?_
 refine f_7 ?_
 refine b_0 ?_
 refine b_7 ?_
 have V := A.as [(3, (Value.int .i64 (minU xs k)))] rfl; clear A
 refine a_5 ?_
 refine s1 V (a_0 rfl (V.ev rfl)) fun AH W => ?_; clear V j
 refine s1 W (a_1 rfl (W.ev rfl)) fun AP g => ?_; clear W AH
 refine n1 ?_
 refine c_8 ?_
 refine a_9 g (.inl rfl) (a_2 g rfl (.tmp rfl)) ?_
 exact ⟨j_1 (by rw [show xs.length - 1 = k by omega]), B.ext⟩
theorem max_ok (xs : List Int) (v : Value) (w : World) (hv : SlAt w v 1 xs.length (ints xs)) (h1 : 1 ≤ xs.length) (hlen : xs.length ≤ 1000) :
  Calls Try.prog 105 #[v] w (Ret fun v w' => v = .int .i64 (maxU xs (xs.length - 1)) ∧ Ext NoB w w') := by
 refine a_8 Try.func105 rfl fun m X => ?_
 replace X : Fr 25 [] [(0, v)] m := X
 have H : Sep NoB w w [(sl v 1 xs.length (ints xs))] := f_0 ⟨rfl, hv, trivial⟩
 refine m2 ?_
 refine s1 X (a_1 rfl (evc _ _)) fun a1 a => ?_; clear X m
 refine n2 ?_
 refine m2 ?_
 refine s1 a (a_0 rfl (a.ev rfl)) fun a3 d => ?_; clear a a1
 refine s1 d (c_0 rfl h_8 (d.ev rfl) (H.ok 0 _ rfl)) fun a5 f => ?_; clear d a3
 refine s1 f (f_9 rfl (f.ev rfl) (evc _ _)) fun a7 F => ?_; clear f a5
 have AI : ¬ ((xs.length : Int) < 1) := (by omega)
 rw [decide_eq_false AI] at F
 refine n1 ?_
 refine b_5 F rfl ?_
 refine d_1 ?_
 refine b_0 ?_
 refine m2 ?_
 refine s1 F (a_0 rfl (F.ev rfl)) fun n I => ?_; clear F a7
 refine s1 I (b_2 rfl h_8 ty_3 (I.ev rfl) (i := 0) (show _ = Value.int .i64 ((0 : Nat) : Int) from (evc _ _)) (H.ok 0 _ rfl) (by decide) (by omega)) fun o J => ?_; clear I n
 refine s1 J (c_7 rfl ty_3 (J.ev rfl) (H.ok 0 _ rfl) (ints_at (by omega))) fun p K => ?_; clear J o
 refine s1 K (a_1 rfl (K.ev rfl)) fun q Y => ?_; clear K p
 refine n2 ?_
 refine b_7 ?_
 have Z := Y.as [(3, (Value.int .i64 (xs.getD 0 0))), (0, v)] rfl; clear Y
 refine a_5 ?_
 refine s1 Z (a_1 rfl (evc _ _)) fun r b => ?_; clear Z q
 refine n1 ?_
 refine d_0 ?_
 have c := b.as [(4, (Value.int .i64 1)), (3, (Value.int .i64 (xs.getD 0 0))), (0, v)] rfl; clear b
 refine h_3 (G := Nat) (fun (k : Nat) a_ w_ => Fr 25 [] [(4, (Value.int .i64 ((k + 1 : Nat) : Int))), (3, (Value.int .i64 (maxU xs k))), (0, v)] a_ ∧ Sep NoB w w_ [(sl v 1 xs.length (ints xs))] ∧ (k + 1 ≤ xs.length)) (fun k => xs.length - k) 0 ⟨c.as _ rfl, H, h1⟩ ?_
 clear c H r
 rintro k s AQ ⟨L, B, hk⟩
 refine b_7 ?_
 refine m2 ?_
 refine s1 L (a_0 rfl (L.ev rfl)) fun t M => ?_; clear L s
 refine s1 M (a_0 rfl (M.ev rfl)) fun u N => ?_; clear M t
 refine s1 N (c_0 rfl h_8 (N.ev rfl) (B.ok 0 _ rfl)) fun x C => ?_; clear N u
 refine s1 C (f_9 rfl (C.ev rfl) (C.ev rfl)) fun j A => ?_; clear C x
 refine n1 ?_
 by_cases h : ((k + 1 : Nat) : Int) < (xs.length : Int)
 ·skip
  rw [decide_eq_true h] at A
  refine c_6 A rfl ?_
  refine d_1 ?_
  refine b_0 ?_
  refine b_7 ?_
  refine d_0 ?_
  refine a_5 ?_
  refine s1 A (a_0 rfl (A.ev rfl)) fun y O => ?_; clear A j
  refine s1 O (a_0 rfl (O.ev rfl)) fun z P => ?_; clear O y
  refine s1 P (a_0 rfl (P.ev rfl)) fun AA D => ?_; clear P z
  refine s1 D (b_2 rfl h_8 ty_3 (D.ev rfl) (i := (k + 1 : Nat)) (D.ev rfl) (B.ok 0 _ rfl) (by decide) (by omega)) fun AB Q => ?_; clear D AA
  refine s1 Q (c_7 rfl ty_3 (Q.ev rfl) (B.ok 0 _ rfl) (ints_at (by omega))) fun AC E => ?_; clear Q AB
  refine s1 E (op_max rfl (E.ev rfl) (E.ev rfl)) fun AD R => ?_; clear E AC
  refine s1 R (a_1 rfl (R.ev rfl)) fun AE e => ?_; clear R AD
  refine e_8 ?_
  refine g_8 ?_
  refine b_0 ?_
  have S := e.as [(3, (Value.int .i64 (max (maxU xs k) (xs.getD (k + 1 : Nat) 0)))), (4, (Value.int .i64 ((k + 1 : Nat) : Int))), (0, v)] rfl; clear e
  refine a_5 ?_
  refine s1 S (a_0 rfl (S.ev rfl)) fun AF T => ?_; clear S AE
  refine s1 T (f_6 rfl (T.ev rfl) (evc _ _) (by omega) (by omega)) fun AG U => ?_; clear T AF
  refine s1 U (a_1 rfl (U.ev rfl)) fun AO l => ?_; clear U AG
  refine e_8 ?_
  exact b_0 ⟨k + 1, ⟨l.as _ rfl, B, by omega⟩, by omega⟩
 skip
 rw [decide_eq_false h] at A
 refine b_5 A rfl ?_
 refine h_1 ?_
 refine b_4 ?_
 refine b_4 ?_
 refine f_7 ?_
 refine b_0 ?_
 refine b_7 ?_
 have V := A.as [(3, (Value.int .i64 (maxU xs k)))] rfl; clear A
 refine a_5 ?_
 refine s1 V (a_0 rfl (V.ev rfl)) fun AH W => ?_; clear V j
 refine s1 W (a_1 rfl (W.ev rfl)) fun AP g => ?_; clear W AH
 refine n1 ?_
 refine c_8 ?_
 refine a_9 g (.inl rfl) (a_2 g rfl (.tmp rfl)) ?_
 exact ⟨j_1 (by rw [show xs.length - 1 = k by omega]), B.ext⟩
theorem least_ok (xs : List Int) (v : Value) (w : World) (hv : SlAt w v 1 xs.length (ints xs)) (N : 1 ≤ xs.length) (hlen : xs.length ≤ 1000) :
  Calls Try.prog 79 #[v] w (Ret fun v w' => v = .int .i64 (minU xs (xs.length - 1)) ∧ Ext NoB w w') := by
 refine a_8 Try.func79 rfl fun H A => ?_
 replace A : Fr 5 [] [(0, v)] H := A
 have F : Sep NoB w w [(sl v 1 xs.length (ints xs))] := f_0 ⟨rfl, hv, trivial⟩
 refine m2 ?_
 refine s1 A (a_1 rfl (evc _ _)) fun J C => ?_; clear A H
 refine n4 ?_
 refine s1 C (a_0 rfl (C.ev rfl)) fun K D => ?_; clear C J
 refine s2 D (a_6 rfl en_104 (ev1 (D.ev rfl)) (min_ok xs _ _ (F.ok 0 _ rfl) (by omega) (by omega))) ?_
 rintro L _ O ⟨rfl, G⟩ E; have I := F.step G; clear G D F K
 refine s1 E (a_1 rfl (E.ev rfl)) fun M B => ?_; clear E L
 refine n1 ?_
 refine c_8 ?_
 refine a_9 B (.inl rfl) (a_2 B rfl (.tmp rfl)) ?_
 exact ⟨rfl, I.ext⟩
theorem greatest_ok (xs : List Int) (v : Value) (w : World) (hv : SlAt w v 1 xs.length (ints xs)) (N : 1 ≤ xs.length) (hlen : xs.length ≤ 1000) :
  Calls Try.prog 80 #[v] w (Ret fun v w' => v = .int .i64 (maxU xs (xs.length - 1)) ∧ Ext NoB w w') := by
 refine a_8 Try.func80 rfl fun H A => ?_
 replace A : Fr 5 [] [(0, v)] H := A
 have F : Sep NoB w w [(sl v 1 xs.length (ints xs))] := f_0 ⟨rfl, hv, trivial⟩
 refine m2 ?_
 refine s1 A (a_1 rfl (evc _ _)) fun J C => ?_; clear A H
 refine n4 ?_
 refine s1 C (a_0 rfl (C.ev rfl)) fun K D => ?_; clear C J
 refine s2 D (a_6 rfl en_105 (ev1 (D.ev rfl)) (max_ok xs _ _ (F.ok 0 _ rfl) (by omega) (by omega))) ?_
 rintro L _ O ⟨rfl, G⟩ E; have I := F.step G; clear G D F K
 refine s1 E (a_1 rfl (E.ev rfl)) fun M B => ?_; clear E L
 refine n1 ?_
 refine c_8 ?_
 refine a_9 B (.inl rfl) (a_2 B rfl (.tmp rfl)) ?_
 exact ⟨rfl, I.ext⟩
theorem cut_ok (D F C E : Int) (w : World) :
  Calls Try.prog 87 #[(Value.agg #[(Value.int .i64 D), (Value.int .i64 F)]), (Value.agg #[(Value.int .i64 C), (Value.int .i64 E)])] w (Ret fun v w' => v = .agg #[.int .i64 (cutR (D, F) (C, E)).1, .int .i64 (cutR (D, F) (C, E)).2] ∧ Ext NoB w w') := by
 refine a_8 Try.func87 rfl fun q I => ?_
 replace I : Fr 18 [] [(0, (Value.agg #[(Value.int .i64 D), (Value.int .i64 F)])), (1, (Value.agg #[(Value.int .i64 C), (Value.int .i64 E)]))] q := I
 have k : Sep NoB w w [] := Sep.start _ _
 refine m2 ?_
 refine s2 I (f_3 k rfl (I.ev rfl) (cs := [(Value.int .i64 D), (Value.int .i64 F)]) rfl) ?_
 rintro z _ w3 ⟨P, rfl, m⟩ T; clear I k q
 refine s2 T (f_3 m rfl (T.ev rfl) (cs := [(Value.int .i64 C), (Value.int .i64 E)]) rfl) ?_
 rintro a6 _ w8 ⟨Q, rfl, Y⟩ j; clear T m z
 refine s2 j (e_4 Y rfl aa_2 (cs := [(Value.int .i64 0), (Value.int .i64 0)]) rfl) ?_
 rintro AC _ AG ⟨M, rfl, Z⟩ R; clear j Y a6
 refine n2 ?_
 have S := R.as [(4, (bptr M 0)), (3, (bptr Q 0)), (2, (bptr P 0))] rfl; clear R
 refine c_drawV mixed S Z 11 [[], [0], [], [2], [1, 3], [4], [], [6], [], [8], [7, 9]] [(yw (bptr P 0)), (yw (Value.int .i64 D)), (yw (bptr Q 0)), (yw (Value.int .i64 C)), (fun (A : Nat → Value) (v_ : Value) (rs_ : List Res) => True ∧ rs_ = [(row v_ 3 1 2 [(Value.int .i64 D), (Value.int .i64 C)])]), (yw (Value.int .i64 (max D C))), (yw (bptr P 1)), (yw (Value.int .i64 F)), (yw (bptr Q 1)), (yw (Value.int .i64 E)), (fun (A : Nat → Value) (v_ : Value) (rs_ : List Res) => True ∧ rs_ = [(row v_ 3 1 2 [(Value.int .i64 F), (Value.int .i64 E)])])] (by decide +kernel) (by decide +kernel) rfl rfl ⟨dw, dw, dw, dw, (fun _ _ _ _ _ h_ => h_), dw, dw, dw, dw, dw, (fun _ _ _ _ _ h_ => h_), trivial⟩ ?_ ?_
 ·skip
  refine ⟨fun a w A hA hS hd => gv1 (a_4 rfl p_6 (hA.ev rfl)), ?_⟩
  refine ⟨fun a w A hA hS hd => gv1 (a_3 rfl ty_3 (gu hd 0) (hS.bk 2 rfl) rfl), ?_⟩
  refine ⟨fun a w A hA hS hd => gv1 (a_4 rfl p_6 (hA.ev rfl)), ?_⟩
  refine ⟨fun a w A hA hS hd => gv1 (a_3 rfl ty_3 (gu hd 2) (hS.bk 1 rfl) rfl), ?_⟩
  refine ⟨fun a w A hA hS hd => d_9 rfl (vblt rfl (pv2 (gu hd 1) (gu hd 3)) h_8 ty_3 ze_3 (by decide) (cs := [(Value.int .i64 D), (Value.int .i64 C)]) (v_2 _ _) rfl (by decide) (fun _ => And.intro trivial rfl)), ?_⟩
  refine ⟨fun a w A hA hS hd => ?_, ?_⟩
  ·skip
   obtain ⟨e4, AF, u, s⟩ := hd 4 (by decide)
   obtain ⟨AE, t⟩ := u; subst t
   have hp4_0 := s _ (List.mem_of_getElem? (i := 0) rfl)
   exact gx1 (a_6 rfl en_80 (ev1 (b_9 (i_1 e4 rfl))) (callsI (greatest_ok [D, C] _ _ (SlAt.d_4 hp4_0) (by simp) (by simp)) (max D C) rfl))
  refine ⟨fun a w A hA hS hd => gv1 (a_4 rfl p_7 (hA.ev rfl)), ?_⟩
  refine ⟨fun a w A hA hS hd => gv1 (a_3 rfl ty_3 (gu hd 6) (hS.bk 2 rfl) rfl), ?_⟩
  refine ⟨fun a w A hA hS hd => gv1 (a_4 rfl p_7 (hA.ev rfl)), ?_⟩
  refine ⟨fun a w A hA hS hd => gv1 (a_3 rfl ty_3 (gu hd 8) (hS.bk 1 rfl) rfl), ?_⟩
  refine ⟨fun a w A hA hS hd => d_9 rfl (vblt rfl (pv2 (gu hd 7) (gu hd 9)) h_8 ty_3 ze_3 (by decide) (cs := [(Value.int .i64 F), (Value.int .i64 E)]) (v_2 _ _) rfl (by decide) (fun _ => And.intro trivial rfl)), ?_⟩
  trivial
 intro h x A rsf23 U B K; clear S Z
 obtain ⟨n, p⟩ := B 4 (by decide)
 obtain ⟨o, e⟩ := p
 obtain ⟨O, g⟩ := B 10 (by decide)
 obtain ⟨f, N⟩ := g
 have L : Sep NoB w x [(row (A 4) 3 1 2 [(Value.int .i64 D), (Value.int .i64 C)]), (row (A 10) 3 1 2 [(Value.int .i64 F), (Value.int .i64 E)]), (blk M 30 [(Value.int .i64 0), (Value.int .i64 0)]), (blk Q 30 [(Value.int .i64 C), (Value.int .i64 E)]), (blk P 30 [(Value.int .i64 D), (Value.int .i64 F)])] := by rw [show catR rsf23 0 11 = ([(row (A 4) 3 1 2 [(Value.int .i64 D), (Value.int .i64 C)]), (row (A 10) 3 1 2 [(Value.int .i64 F), (Value.int .i64 E)])] : List Res) by (try simp only [catR, gr (B 0 (by decide)), gr (B 1 (by decide)), gr (B 2 (by decide)), gr (B 3 (by decide)), e, gr (B 5 (by decide)), gr (B 6 (by decide)), gr (B 7 (by decide)), gr (B 8 (by decide)), gr (B 9 (by decide)), N]); (try rfl)] at K; exact K
 have V := U.add (gs (B 5 (by decide))); clear U
 have J : Fr 18 [] [(15, (A 10)), (10, (Value.int .i64 (max D C))), (4, (bptr M 0)), (3, (bptr Q 0)), (2, (bptr P 0))] h := V.add (i_1 O rfl); clear V
 clear B K n O
 clear e
 clear o
 clear N
 clear f
 refine s2 J (a_6 rfl en_79 (ev1 (J.ev rfl)) (callsI (least_ok [F, E] _ _ (SlAt.d_4 (L.d_7 1 rfl)) (by simp) (by simp)) (min F E) rfl)) ?_
 rintro r _ AH ⟨rfl, X⟩ G; have b := L.step X; clear X J L h
 refine s1 G (e_7 rfl (pv2 (G.ev rfl) (G.ev rfl)) (l_9 _ _)) fun AD H => ?_; clear G r
 refine s7 H (c_5 b rfl g_5 (H.ev rfl) (H.ev rfl) (i := 2) rfl (vs := [(Value.int .i64 (max D C)), (Value.int .i64 (min F E))]) rfl rfl rfl (Nat.le_of_ble_eq_true rfl)) ?_
 intro _ y c W; clear H
 have d : Sep NoB w y [(row (A 4) 3 1 2 [(Value.int .i64 D), (Value.int .i64 C)]), (row (A 10) 3 1 2 [(Value.int .i64 F), (Value.int .i64 E)]), (blk M 30 [(Value.int .i64 (max D C)), (Value.int .i64 (min F E))]), (blk Q 30 [(Value.int .i64 C), (Value.int .i64 E)]), (blk P 30 [(Value.int .i64 D), (Value.int .i64 F)])] := c; clear c b
 refine n1 ?_
 refine c_8 ?_
 refine a_9 W (.inl rfl) (a_2 W rfl (.cellA rfl g_5 (d.bk 2 rfl) (l := [(Value.int .i64 (max D C)), (Value.int .i64 (min F E))]) rfl rfl)) ?_
 exact ⟨rfl, d.ext⟩
theorem downF_bd {n d : Int} (hn : -100000000000 ≤ n ∧ n ≤ 100000000000) (hd : 0 < d ∧ d ≤ 100000) : -100000000001 ≤ ac_3 n d ∧ ac_3 n d ≤ 100000000000 := by
 have a := tdiv_bd hn hd
 by_cases h : n.tmod d < 0
 ·rw [← down_y hd.1 h]; omega
 rw [← down_n hd.1 h]; omega
theorem up_ok (n d : Int) (w : World) (hn : -100000000000 ≤ n ∧ n ≤ 100000000000) (hd : 0 < d ∧ d ≤ 100000) :
  Calls Try.prog 103 #[(Value.agg #[(Value.int .i64 n), (Value.int .i64 d)])] w (Ret fun v w' => v = .int .i64 (upF n d) ∧ Ext NoB w w') := by
 refine a_8 Try.func103 rfl fun Q B => ?_
 replace B : Fr 11 [] [(0, (Value.agg #[(Value.int .i64 n), (Value.int .i64 d)]))] Q := B
 have hb_ := downF_bd (n := -n) (d := d) (by omega) hd
 have O : Sep NoB w w [] := Sep.start _ _
 refine m2 ?_
 refine s2 B (f_3 O rfl (B.ev rfl) (cs := [(Value.int .i64 n), (Value.int .i64 d)]) rfl) ?_
 rintro Y _ f ⟨e, rfl, I⟩ N; clear B O Q
 refine s1 N (a_1 rfl (evc _ _)) fun Z K => ?_; clear N Y
 refine n4 ?_
 refine s1 K (a_4 rfl fd_157_0 (K.ev rfl)) fun a L => ?_; clear K Z
 refine s1 L (a_3 rfl ty_3 (L.ev rfl) (I.bk 0 rfl) rfl) fun R C => ?_; clear L a
 refine s1 C (op_neg rfl (C.ev rfl) (by omega) (by omega)) fun S D => ?_; clear C R
 refine s1 D (a_4 rfl fd_157_1 (D.ev rfl)) fun T E => ?_; clear D S
 refine s1 E (a_3 rfl ty_3 (E.ev rfl) (I.bk 0 rfl) rfl) fun U A => ?_; clear E T
 refine s1 A (e_7 rfl (pv2 (A.ev rfl) (A.ev rfl)) (bd_157_0i_1i _ _)) fun V F => ?_; clear A U
 refine s2 F (a_6 rfl en_102 (ev1 (F.ev rfl)) (down_ok _ _ _ (by omega) (by omega))) ?_
 rintro W _ c ⟨rfl, M⟩ G; have P := I.step M; clear M F I V
 refine s1 G (op_neg rfl (G.ev rfl) (by omega) (by omega)) fun X H => ?_; clear G W
 refine s1 H (a_1 rfl (H.ev rfl)) fun b J => ?_; clear H X
 refine n1 ?_
 refine c_8 ?_
 refine a_9 J (.inl rfl) (a_2 J rfl (.tmp rfl)) ?_
 exact ⟨rfl, P.ext⟩
end Go.Proofs.Ytohgladndklciaa

namespace Go.Proofs.Ytohgladndklciaa
open Go.RowKit Go.Shelf Go.Eng Go.Hard
theorem fd_103_1 : fldK Try.prog 103 1 = some 1 := by kernel_rfl
theorem ty_101 : tyK Try.prog 101 = some (false, 1) := by kernel_rfl
theorem ab_4 : Try.prog.underlying 101 = some (.slice 100) := by kernel_rfl
theorem ab_3 : tyK Try.prog 100 = some (true, 3) := by kernel_rfl
theorem ze_100 : (Try.prog.info? 100).bind (·.zero) = some (Value.agg #[(Value.int .i64 0), (Value.int .i64 0), (Value.int .i64 0)]) := by kernel_rfl
theorem fd_100_1 : fldK Try.prog 100 1 = some 2 := by kernel_rfl
theorem fd_100_0 : fldK Try.prog 100 0 = some 0 := by kernel_rfl
theorem en_87 : ∀ args w, (callFunc 87 args).run Try.prog w = .ok (.enter 87 args) w := enters_of Try.func87 (by kernel_rfl) rfl
theorem v_7 : fldK Try.prog 61 1 = some 1 := by kernel_rfl
theorem ty_59 : tyK Try.prog 59 = some (false, 1) := by kernel_rfl
theorem un_59 : Try.prog.underlying 59 = some (.slice 63) := by kernel_rfl
theorem ty_63 : tyK Try.prog 63 = some (true, 3) := by kernel_rfl
theorem ze_63 : (Try.prog.info? 63).bind (·.zero) = some (Value.agg #[(Value.int .i64 0), (Value.int .i64 0), (Value.int .i64 0)]) := by kernel_rfl
theorem fd_63_1 : fldK Try.prog 63 1 = some 2 := by kernel_rfl
theorem fd_63_0 : fldK Try.prog 63 0 = some 0 := by kernel_rfl
theorem ac_1 : tyK Try.prog 61 = some (true, 2) := by kernel_rfl
theorem bd_fv_27_0_i64i64 (A B : Int) (w : World) : (Instr.field 27 (.agg #[(.int .i64 A), (.int .i64 B)]) 0).run Try.prog w = .ok (.int .i64 A) w := by kernel_rfl
theorem bd_fv_27_1_i64i64 (B A : Int) (w : World) : (Instr.field 27 (.agg #[(.int .i64 B), (.int .i64 A)]) 1).run Try.prog w = .ok (.int .i64 A) w := by kernel_rfl
theorem en_37 : ∀ args w, (callFunc 37 args).run Try.prog w = .ok (.enter 37 args) w := enters_of Try.func37 (by kernel_rfl) rfl
theorem bias_ok (n : Int) (m : MacD) (vk : Value) (w : World) (hk : SlAt w vk 3 m.blocks.length (trips m.blocks)) (hm : MacV n m) (hbl : m.blocks.length ≤ 1000000) :
  Calls Try.prog 67 #[(Value.agg #[(Value.int .i64 m.scale), vk])] w (Ret fun v w' => v = .agg #[.int .i64 (e_5 m).1, .int .i64 (e_5 m).2] ∧ Ext NoB w w') := by
 refine a_8 Try.func67 rfl fun a0 Q => ?_
 replace Q : Fr 31 [] [(0, (Value.agg #[(Value.int .i64 m.scale), vk]))] a0 := Q
 have AN : Sep NoB w w [(sl vk 3 m.blocks.length (trips m.blocks))] := f_0 ⟨rfl, hk, trivial⟩
 refine m2 ?_
 refine s2 Q (f_3 AN rfl (Q.ev rfl) (cs := [(Value.int .i64 m.scale), vk]) rfl) ?_
 rintro a1 _ w3 ⟨j, rfl, AO⟩ AL; clear Q AN a0
 refine s2 AL (e_4 AO rfl aa_2 (cs := [(Value.int .i64 0), (Value.int .i64 0)]) rfl) ?_
 rintro a6 _ w8 ⟨P, rfl, y⟩ AM; clear AL AO a1
 refine n4 ?_
 refine s1 AM (e_7 rfl (pv2 (evc _ _) (evc _ _)) (l_9 _ _)) fun AS o => ?_; clear AM a6
 refine s2 o (e_4 y rfl aa_2 (cs := [(Value.int .i64 0), (Value.int .i64 0)]) rfl) ?_
 rintro AT _ A1 ⟨D, rfl, z⟩ E; clear o y AS
 refine s7 E (c_5 z rfl g_5 (E.ev rfl) (E.ev rfl) (i := 0) rfl (vs := [(Value.int .i64 (-100000)), (Value.int .i64 100000)]) rfl rfl rfl (Nat.le_of_ble_eq_true rfl)) ?_
 intro _ As AA R; clear E
 have O : Sep NoB w As [(blk D 30 [(Value.int .i64 (-100000)), (Value.int .i64 100000)]), (blk P 30 [(Value.int .i64 0), (Value.int .i64 0)]), (blk j 103 [(Value.int .i64 m.scale), vk]), (sl vk 3 m.blocks.length (trips m.blocks))] := AA; clear AA z
 refine n2 ?_
 refine m2 ?_
 refine s1 R (a_4 rfl fd_103_1 (R.ev rfl)) fun AU S => ?_; clear R AT
 refine s1 S (a_3 rfl ty_101 (S.ev rfl) (O.bk 2 rfl) rfl) fun AV T => ?_; clear S AU
 refine s1 T (c_0 rfl ab_4 (T.ev rfl) (O.sk 3 rfl)) fun AW p => ?_; clear T AV
 refine s1 p (a_0 rfl (evc _ _)) fun AX q => ?_; clear p AW
 refine n1 ?_
 refine d_0 ?_
 have r := q.as [(10, (Value.int .i64 0)), (9, (Value.int .i64 (m.blocks.length : Int))), (8, vk), (3, (bptr D 0)), (2, (bptr P 0))] rfl; clear q
 refine h_3 (G := Nat) (fun (k : Nat) a_ w_ => Fr 31 [] [(10, (Value.int .i64 (k : Int))), (9, (Value.int .i64 (m.blocks.length : Int))), (8, vk), (3, (bptr D 0)), (2, (bptr P 0))] a_ ∧ Sep NoB w w_ [(blk D 30 [(Value.int .i64 ((k_2 m.blocks k).1)), (Value.int .i64 ((k_2 m.blocks k).2))]), (blk P 30 [(Value.int .i64 0), (Value.int .i64 0)]), (blk j 103 [(Value.int .i64 m.scale), vk]), (sl vk 3 m.blocks.length (trips m.blocks))] ∧ (k ≤ m.blocks.length)) (fun k => m.blocks.length - k) 0 ⟨r.as _ rfl, O, by omega⟩ ?_
 clear r O AX
 rintro k AY A2 ⟨F, B, A0⟩
 refine m2 ?_
 refine s1 F (f_9 rfl (F.ev rfl) (F.ev rfl)) fun AJ A => ?_; clear F AY
 refine n2 ?_
 by_cases AI : (k : Int) < (m.blocks.length : Int)
 ·skip
  rw [decide_eq_true AI] at A
  have hbk := hm.blocks k (by omega)
  refine c_6 A rfl ?_
  refine d_1 ?_
  refine b_0 ?_
  refine b_7 ?_
  refine d_0 ?_
  refine m2 ?_
  refine s1 A (b_2 rfl ab_4 ab_3 (A.ev rfl) (i := k) (A.ev rfl) (B.sk 3 rfl) (by decide) (by omega)) fun AZ U => ?_; clear A AJ
  refine s1 U (f_2 rfl ab_3 (U.ev rfl) (B.sk 3 rfl) (x_0 (by omega)) rfl (by decide)) fun Aa s => ?_; clear U AZ
  refine s2 s (e_4 B rfl ze_100 (cs := [(Value.int .i64 0), (Value.int .i64 0), (Value.int .i64 0)]) rfl) ?_
  rintro Ab _ A3 ⟨AK, rfl, AB⟩ H; clear s B Aa
  refine s7 H (c_5 AB rfl ab_3 (H.ev rfl) (H.ev rfl) (i := 0) rfl (vs := [(Value.int .i64 ((m.blocks.getD k (0, 0, 0)).1)), (Value.int .i64 ((m.blocks.getD k (0, 0, 0)).2.1)), (Value.int .i64 ((m.blocks.getD k (0, 0, 0)).2.2))]) rfl rfl rfl (Nat.le_of_ble_eq_true rfl)) ?_
  intro _ At AC V; clear H
  have C : Sep NoB w At [(blk AK 100 [(Value.int .i64 ((m.blocks.getD k (0, 0, 0)).1)), (Value.int .i64 ((m.blocks.getD k (0, 0, 0)).2.1)), (Value.int .i64 ((m.blocks.getD k (0, 0, 0)).2.2))]), (blk D 30 [(Value.int .i64 ((k_2 m.blocks k).1)), (Value.int .i64 ((k_2 m.blocks k).2))]), (blk P 30 [(Value.int .i64 0), (Value.int .i64 0)]), (blk j 103 [(Value.int .i64 m.scale), vk]), (sl vk 3 m.blocks.length (trips m.blocks))] := AC; clear AC AB
  refine n3 ?_
  refine s1 V (c_4 rfl g_5 (V.ev rfl) (C.bk 1 rfl) (l := [(Value.int .i64 ((k_2 m.blocks k).1)), (Value.int .i64 ((k_2 m.blocks k).2))]) rfl rfl) fun Ac W => ?_; clear V Ab
  refine s1 W (a_4 rfl fd_100_1 (W.ev rfl)) fun Ad X => ?_; clear W Ac
  refine s1 X (a_3 rfl ty_3 (X.ev rfl) (C.bk 0 rfl) rfl) fun Ae Y => ?_; clear X Ad
  refine s1 Y (a_4 rfl fd_100_0 (Y.ev rfl)) fun Af Z => ?_; clear Y Ae
  refine s1 Z (a_4 rfl p_7 (Z.ev rfl)) fun Ag a => ?_; clear Z Af
  refine s1 a (a_3 rfl ty_3 (a.ev rfl) (C.bk 0 rfl) rfl) fun Ah I => ?_; clear a Ag
  refine s1 I (g_1 rfl (I.ev rfl) (I.ev rfl) (by omega) (by omega)) fun Ai b => ?_; clear I Ah
  refine s1 b (a_4 rfl fd_100_1 (b.ev rfl)) fun Aj c => ?_; clear b Ai
  refine s1 c (a_3 rfl ty_3 (c.ev rfl) (C.bk 0 rfl) rfl) fun Ak d => ?_; clear c Aj
  refine s1 d (a_4 rfl fd_100_0 (d.ev rfl)) fun Al e => ?_; clear d Ak
  refine s1 e (a_4 rfl p_6 (e.ev rfl)) fun Am f => ?_; clear e Al
  refine s1 f (a_3 rfl ty_3 (f.ev rfl) (C.bk 0 rfl) rfl) fun An J => ?_; clear f Am
  refine s1 J (g_1 rfl (J.ev rfl) (J.ev rfl) (by omega) (by omega)) fun Ao K => ?_; clear J An
  refine s1 K (e_7 rfl (pv2 (K.ev rfl) (K.ev rfl)) (l_9 _ _)) fun Ap L => ?_; clear K Ao
  refine s2 L (a_6 rfl en_87 (ev2 (L.ev rfl) (L.ev rfl)) (cut_ok _ _ _ _ _)) ?_
  rintro Aq _ A4 ⟨rfl, x⟩ M; have AD := C.step x; clear x L C Ap
  refine s7 M (c_5 AD rfl g_5 (M.ev rfl) (M.ev rfl) (i := 1) rfl (vs := [(Value.int .i64 ((cutR ((k_2 m.blocks k).1, (k_2 m.blocks k).2) (((m.blocks.getD k (0, 0, 0)).2.2) - ((m.blocks.getD k (0, 0, 0)).2.1), ((m.blocks.getD k (0, 0, 0)).2.2) - ((m.blocks.getD k (0, 0, 0)).1))).1)), (Value.int .i64 ((cutR ((k_2 m.blocks k).1, (k_2 m.blocks k).2) (((m.blocks.getD k (0, 0, 0)).2.2) - ((m.blocks.getD k (0, 0, 0)).2.1), ((m.blocks.getD k (0, 0, 0)).2.2) - ((m.blocks.getD k (0, 0, 0)).1))).2))]) rfl rfl rfl (Nat.le_of_ble_eq_true rfl)) ?_
  intro _ Au AE t; clear M
  have AF : Sep NoB w Au [(blk AK 100 [(Value.int .i64 ((m.blocks.getD k (0, 0, 0)).1)), (Value.int .i64 ((m.blocks.getD k (0, 0, 0)).2.1)), (Value.int .i64 ((m.blocks.getD k (0, 0, 0)).2.2))]), (blk D 30 [(Value.int .i64 ((cutR ((k_2 m.blocks k).1, (k_2 m.blocks k).2) (((m.blocks.getD k (0, 0, 0)).2.2) - ((m.blocks.getD k (0, 0, 0)).2.1), ((m.blocks.getD k (0, 0, 0)).2.2) - ((m.blocks.getD k (0, 0, 0)).1))).1)), (Value.int .i64 ((cutR ((k_2 m.blocks k).1, (k_2 m.blocks k).2) (((m.blocks.getD k (0, 0, 0)).2.2) - ((m.blocks.getD k (0, 0, 0)).2.1), ((m.blocks.getD k (0, 0, 0)).2.2) - ((m.blocks.getD k (0, 0, 0)).1))).2))]), (blk P 30 [(Value.int .i64 0), (Value.int .i64 0)]), (blk j 103 [(Value.int .i64 m.scale), vk]), (sl vk 3 m.blocks.length (trips m.blocks))] := AE; clear AE AD
  refine e_8 ?_
  refine g_8 ?_
  refine b_0 ?_
  have g := t.as [(10, (Value.int .i64 (k : Int))), (9, (Value.int .i64 (m.blocks.length : Int))), (8, vk), (3, (bptr D 0)), (2, (bptr P 0))] rfl; clear t
  refine a_5 ?_
  refine s1 g (f_6 rfl (g.ev rfl) (evc _ _) (by omega) (by omega)) fun Ar h => ?_; clear g Aq
  refine s1 h (a_0 rfl (h.ev rfl)) fun Ay AP => ?_; clear h Ar
  refine e_8 ?_
  have AQ := AF.gkp (gpc 1 (gpc 2 (gpc 3 (gpc 4 gpn)))); clear AF
  exact b_0 ⟨k + 1, ⟨AP.as _ rfl, AQ, by omega⟩, by omega⟩
 skip
 rw [decide_eq_false AI] at A
 refine b_5 A rfl ?_
 refine h_1 ?_
 refine b_4 ?_
 refine b_4 ?_
 refine f_7 ?_
 refine b_0 ?_
 refine m2 ?_
 refine s1 A (c_4 rfl g_5 (A.ev rfl) (B.bk 0 rfl) (l := [(Value.int .i64 ((k_2 m.blocks k).1)), (Value.int .i64 ((k_2 m.blocks k).2))]) rfl rfl) fun Az N => ?_; clear A AJ
 refine s7 N (c_5 B rfl g_5 (N.ev rfl) (N.ev rfl) (i := 1) rfl (vs := [(Value.int .i64 ((k_2 m.blocks k).1)), (Value.int .i64 ((k_2 m.blocks k).2))]) rfl rfl rfl (Nat.le_of_ble_eq_true rfl)) ?_
 intro _ Av AG u; clear N
 have AH : Sep NoB w Av [(blk D 30 [(Value.int .i64 ((k_2 m.blocks k).1)), (Value.int .i64 ((k_2 m.blocks k).2))]), (blk P 30 [(Value.int .i64 ((k_2 m.blocks k).1)), (Value.int .i64 ((k_2 m.blocks k).2))]), (blk j 103 [(Value.int .i64 m.scale), vk]), (sl vk 3 m.blocks.length (trips m.blocks))] := AG; clear AG B
 refine n1 ?_
 refine c_8 ?_
 refine a_9 u (.inl rfl) (a_2 u rfl (.cellA rfl g_5 (AH.bk 1 rfl) (l := [(Value.int .i64 ((k_2 m.blocks k).1)), (Value.int .i64 ((k_2 m.blocks k).2))]) rfl rfl)) ?_
 exact ⟨by unfold e_5; rw [show m.blocks.length = k by omega], AH.ext⟩
theorem rbias_ok (n : Int) (m : MacD) (vk : Value) (w : World) (hk : SlAt w vk 3 m.blocks.length (trips m.blocks)) (hm : MacV n m) (hbl : m.blocks.length ≤ 1000000) :
  Calls Try.prog 37 #[(Value.agg #[(Value.int .i64 m.scale), vk])] w (Ret fun v w' => v = .agg #[.int .i64 (e_5 m).1, .int .i64 (e_5 m).2] ∧ Ext NoB w w') := by
 refine a_8 Try.func37 rfl fun a0 W => ?_
 replace W : Fr 39 [] [(0, (Value.agg #[(Value.int .i64 m.scale), vk]))] a0 := W
 have AY : Sep NoB w w [(sl vk 3 m.blocks.length (trips m.blocks))] := f_0 ⟨rfl, hk, trivial⟩
 refine m2 ?_
 refine s2 W (f_3 AY rfl (W.ev rfl) (cs := [(Value.int .i64 m.scale), vk]) rfl) ?_
 rintro a1 _ w3 ⟨H, rfl, AZ⟩ AW; clear W AY a0
 refine s2 AW (e_4 AZ rfl ze_27 (cs := [(Value.int .i64 0), (Value.int .i64 0)]) rfl) ?_
 rintro a6 _ w8 ⟨F, rfl, AL⟩ AX; clear AW AZ a1
 refine n4 ?_
 refine s1 AX (e_7 rfl (pv2 (evc _ _) (evc _ _)) (bd_27_0i_1i _ _)) fun Ae AF => ?_; clear AX a6
 refine s2 AF (e_4 AL rfl ze_27 (cs := [(Value.int .i64 0), (Value.int .i64 0)]) rfl) ?_
 rintro Af _ BJ ⟨D, rfl, AM⟩ M; clear AF AL Ae
 refine s7 M (c_5 AM rfl ty_27 (M.ev rfl) (M.ev rfl) (i := 0) rfl (vs := [(Value.int .i64 (-100000)), (Value.int .i64 100000)]) rfl rfl rfl (Nat.le_of_ble_eq_true rfl)) ?_
 intro _ BB AN AG; clear M
 have AO : Sep NoB w BB [(blk D 27 [(Value.int .i64 (-100000)), (Value.int .i64 100000)]), (blk F 27 [(Value.int .i64 0), (Value.int .i64 0)]), (blk H 61 [(Value.int .i64 m.scale), vk]), (sl vk 3 m.blocks.length (trips m.blocks))] := AN; clear AN AM
 refine n2 ?_
 refine m2 ?_
 refine s1 AG (a_1 rfl (evc _ _)) fun Ag AH => ?_; clear AG Af
 refine n1 ?_
 refine d_0 ?_
 have AI := AH.as [(4, (Value.int .i64 0)), (3, (bptr D 0)), (2, (bptr F 0)), (1, (bptr H 0))] rfl; clear AH
 refine h_3 (G := Nat) (fun (k : Nat) a_ w_ => Fr 39 [] [(4, (Value.int .i64 (k : Int))), (3, (bptr D 0)), (2, (bptr F 0)), (1, (bptr H 0))] a_ ∧ Sep NoB w w_ [(blk D 27 [(Value.int .i64 ((k_2 m.blocks k).1)), (Value.int .i64 ((k_2 m.blocks k).2))]), (blk F 27 [(Value.int .i64 0), (Value.int .i64 0)]), (blk H 61 [(Value.int .i64 m.scale), vk]), (sl vk 3 m.blocks.length (trips m.blocks))] ∧ (k ≤ m.blocks.length)) (fun k => m.blocks.length - k) 0 ⟨AI.as _ rfl, AO, by omega⟩ ?_
 clear AI AO Ag
 rintro k Ah BK ⟨X, A, BI⟩
 refine b_7 ?_
 refine m2 ?_
 refine s1 X (a_0 rfl (X.ev rfl)) fun Ai Y => ?_; clear X Ah
 refine s1 Y (a_4 rfl v_7 (Y.ev rfl)) fun Aj Z => ?_; clear Y Ai
 refine s1 Z (a_3 rfl ty_59 (Z.ev rfl) (A.bk 2 rfl) rfl) fun Ak a => ?_; clear Z Aj
 refine s1 a (c_0 rfl un_59 (a.ev rfl) (A.sk 3 rfl)) fun Al N => ?_; clear a Ak
 refine s1 N (f_9 rfl (N.ev rfl) (N.ev rfl)) fun AV B => ?_; clear N Al
 refine n1 ?_
 by_cases AS : (k : Int) < (m.blocks.length : Int)
 ·skip
  rw [decide_eq_true AS] at B
  have hbk := hm.blocks k (by omega)
  refine c_6 B rfl ?_
  refine d_1 ?_
  refine b_0 ?_
  refine b_7 ?_
  refine d_0 ?_
  refine m2 ?_
  refine s1 B (a_4 rfl v_7 (B.ev rfl)) fun Am b => ?_; clear B AV
  refine s1 b (a_3 rfl ty_59 (b.ev rfl) (A.bk 2 rfl) rfl) fun An c => ?_; clear b Am
  refine s1 c (a_0 rfl (c.ev rfl)) fun Ao O => ?_; clear c An
  refine s1 O (b_2 rfl un_59 ty_63 (O.ev rfl) (i := k) (O.ev rfl) (A.sk 3 rfl) (by decide) (by omega)) fun Ap d => ?_; clear O Ao
  refine s1 d (f_2 rfl ty_63 (d.ev rfl) (A.sk 3 rfl) (x_0 (by omega)) rfl (by decide)) fun Aq AJ => ?_; clear d Ap
  refine s2 AJ (e_4 A rfl ze_63 (cs := [(Value.int .i64 0), (Value.int .i64 0), (Value.int .i64 0)]) rfl) ?_
  rintro Ar _ BL ⟨AE, rfl, AP⟩ P; clear AJ A Aq
  refine s7 P (c_5 AP rfl ty_63 (P.ev rfl) (P.ev rfl) (i := 0) rfl (vs := [(Value.int .i64 ((m.blocks.getD k (0, 0, 0)).1)), (Value.int .i64 ((m.blocks.getD k (0, 0, 0)).2.1)), (Value.int .i64 ((m.blocks.getD k (0, 0, 0)).2.2))]) rfl rfl rfl (Nat.le_of_ble_eq_true rfl)) ?_
  intro _ BC AQ AK; clear P
  have C : Sep NoB w BC [(blk AE 63 [(Value.int .i64 ((m.blocks.getD k (0, 0, 0)).1)), (Value.int .i64 ((m.blocks.getD k (0, 0, 0)).2.1)), (Value.int .i64 ((m.blocks.getD k (0, 0, 0)).2.2))]), (blk D 27 [(Value.int .i64 ((k_2 m.blocks k).1)), (Value.int .i64 ((k_2 m.blocks k).2))]), (blk F 27 [(Value.int .i64 0), (Value.int .i64 0)]), (blk H 61 [(Value.int .i64 m.scale), vk]), (sl vk 3 m.blocks.length (trips m.blocks))] := AQ; clear AQ AP
  refine n1 ?_
  have e := AK.as [(5, (bptr AE 0)), (4, (Value.int .i64 (k : Int))), (3, (bptr D 0)), (2, (bptr F 0)), (1, (bptr H 0))] rfl; clear AK
  refine a_5 ?_
  refine s1 e (a_4 rfl fd_27_0 (e.ev rfl)) fun As f => ?_; clear e Ar
  refine s1 f (a_3 rfl ty_3 (f.ev rfl) (C.bk 1 rfl) rfl) fun At g => ?_; clear f As
  refine s1 g (a_4 rfl fd_63_1 (g.ev rfl)) fun Au h => ?_; clear g At
  refine s1 h (a_3 rfl ty_3 (h.ev rfl) (C.bk 0 rfl) rfl) fun Av j => ?_; clear h Au
  refine s1 j (a_4 rfl fd_63_0 (j.ev rfl)) fun Aw o => ?_; clear j Av
  refine s1 o (a_4 rfl fd_27_1 (o.ev rfl)) fun Ax p => ?_; clear o Aw
  refine s1 p (a_3 rfl ty_3 (p.ev rfl) (C.bk 0 rfl) rfl) fun Ay Q => ?_; clear p Ax
  refine s1 Q (g_1 rfl (Q.ev rfl) (Q.ev rfl) (by omega) (by omega)) fun Az R => ?_; clear Q Ay
  refine s1 R (op_max rfl (R.ev rfl) (R.ev rfl)) fun A0 q => ?_; clear R Az
  refine s1 q (a_4 rfl fd_27_1 (q.ev rfl)) fun A1 r => ?_; clear q A0
  refine s1 r (a_3 rfl ty_3 (r.ev rfl) (C.bk 1 rfl) rfl) fun A2 s => ?_; clear r A1
  refine s1 s (a_4 rfl fd_63_1 (s.ev rfl)) fun A3 t => ?_; clear s A2
  refine s1 t (a_3 rfl ty_3 (t.ev rfl) (C.bk 0 rfl) rfl) fun A4 u => ?_; clear t A3
  refine s1 u (a_4 rfl fd_63_0 (u.ev rfl)) fun A5 x => ?_; clear u A4
  refine s1 x (a_4 rfl fd_27_0 (x.ev rfl)) fun A6 y => ?_; clear x A5
  refine s1 y (a_3 rfl ty_3 (y.ev rfl) (C.bk 0 rfl) rfl) fun A7 S => ?_; clear y A6
  refine s1 S (g_1 rfl (S.ev rfl) (S.ev rfl) (by omega) (by omega)) fun A8 T => ?_; clear S A7
  refine s1 T (op_min rfl (T.ev rfl) (T.ev rfl)) fun A9 U => ?_; clear T A8
  refine s1 U (e_7 rfl (pv2 (U.ev rfl) (U.ev rfl)) (bd_27_0i_1i _ _)) fun BA V => ?_; clear U A9
  refine s7 V (c_5 C rfl ty_27 (V.ev rfl) (V.ev rfl) (i := 1) rfl (vs := [(Value.int .i64 (max ((k_2 m.blocks k).1) (((m.blocks.getD k (0, 0, 0)).2.2) - ((m.blocks.getD k (0, 0, 0)).2.1)))), (Value.int .i64 (min ((k_2 m.blocks k).2) (((m.blocks.getD k (0, 0, 0)).2.2) - ((m.blocks.getD k (0, 0, 0)).1))))]) rfl rfl rfl (Nat.le_of_ble_eq_true rfl)) ?_
  intro _ BD AR z; clear V
  have AB : Sep NoB w BD [(blk AE 63 [(Value.int .i64 ((m.blocks.getD k (0, 0, 0)).1)), (Value.int .i64 ((m.blocks.getD k (0, 0, 0)).2.1)), (Value.int .i64 ((m.blocks.getD k (0, 0, 0)).2.2))]), (blk D 27 [(Value.int .i64 (max ((k_2 m.blocks k).1) (((m.blocks.getD k (0, 0, 0)).2.2) - ((m.blocks.getD k (0, 0, 0)).2.1)))), (Value.int .i64 (min ((k_2 m.blocks k).2) (((m.blocks.getD k (0, 0, 0)).2.2) - ((m.blocks.getD k (0, 0, 0)).1))))]), (blk F 27 [(Value.int .i64 0), (Value.int .i64 0)]), (blk H 61 [(Value.int .i64 m.scale), vk]), (sl vk 3 m.blocks.length (trips m.blocks))] := AR; clear AR C
  refine e_8 ?_
  refine g_8 ?_
  refine b_0 ?_
  have I := z.as [(4, (Value.int .i64 (k : Int))), (3, (bptr D 0)), (2, (bptr F 0)), (1, (bptr H 0))] rfl; clear z
  refine a_5 ?_
  refine s1 I (a_0 rfl (I.ev rfl)) fun Aa J => ?_; clear I BA
  refine s1 J (f_6 rfl (J.ev rfl) (evc _ _) (by omega) (by omega)) fun Ab K => ?_; clear J Aa
  refine s1 K (a_1 rfl (K.ev rfl)) fun BF AT => ?_; clear K Ab
  refine e_8 ?_
  have AU := AB.gkp (gpc 1 (gpc 2 (gpc 3 (gpc 4 gpn)))); clear AB
  exact b_0 ⟨k + 1, ⟨AT.as _ rfl, AU, by omega⟩, by omega⟩
 skip
 rw [decide_eq_false AS] at B
 refine b_5 B rfl ?_
 refine h_1 ?_
 refine b_4 ?_
 refine b_4 ?_
 refine f_7 ?_
 refine b_0 ?_
 refine b_7 ?_
 have L := B.as [(3, (bptr D 0)), (2, (bptr F 0))] rfl; clear B
 refine a_5 ?_
 refine s1 L (c_4 rfl ty_27 (L.ev rfl) (A.bk 0 rfl) (l := [(Value.int .i64 ((k_2 m.blocks k).1)), (Value.int .i64 ((k_2 m.blocks k).2))]) rfl rfl) fun BG E => ?_; clear L AV
 refine s7 E (c_5 A rfl ty_27 (E.ev rfl) (E.ev rfl) (i := 1) rfl (vs := [(Value.int .i64 ((k_2 m.blocks k).1)), (Value.int .i64 ((k_2 m.blocks k).2))]) rfl rfl rfl (Nat.le_of_ble_eq_true rfl)) ?_
 intro _ Ac AC AA; clear E
 have AD : Sep NoB w Ac [(blk D 27 [(Value.int .i64 ((k_2 m.blocks k).1)), (Value.int .i64 ((k_2 m.blocks k).2))]), (blk F 27 [(Value.int .i64 ((k_2 m.blocks k).1)), (Value.int .i64 ((k_2 m.blocks k).2))]), (blk H 61 [(Value.int .i64 m.scale), vk]), (sl vk 3 m.blocks.length (trips m.blocks))] := AC; clear AC A
 refine n1 ?_
 refine c_8 ?_
 refine a_9 AA (.inl rfl) (a_2 AA rfl (.cellA rfl ty_27 (AD.bk 1 rfl) (l := [(Value.int .i64 ((k_2 m.blocks k).1)), (Value.int .i64 ((k_2 m.blocks k).2))]) rfl rfl)) ?_
 exact ⟨by unfold e_5; rw [show m.blocks.length = k by omega], AD.ext⟩
theorem roff_ok (n : Int) (m : MacD) (vk : Value) (w : World) (hk : SlAt w vk 3 m.blocks.length (trips m.blocks)) (hm : MacV n m) (hbl : m.blocks.length ≤ 1000000) :
  Calls Try.prog 35 #[(Value.agg #[(Value.int .i64 m.scale), vk])] w (Ret fun v w' => v = .bool (offB m) ∧ Ext NoB w w') := by
 refine a_8 Try.func35 rfl fun N B => ?_
 replace B : Fr 10 [] [(0, (Value.agg #[(Value.int .i64 m.scale), vk]))] N := B
 have K : Sep NoB w w [(sl vk 3 m.blocks.length (trips m.blocks))] := f_0 ⟨rfl, hk, trivial⟩
 refine m2 ?_
 refine s2 B (f_3 K rfl (B.ev rfl) (cs := [(Value.int .i64 m.scale), vk]) rfl) ?_
 rintro Q _ X ⟨R, rfl, L⟩ H; clear B K N
 refine s1 H (a_1 rfl (evc _ _)) fun W I => ?_; clear H Q
 refine n2 ?_
 have J := I.as [(1, (bptr R 0))] rfl; clear I
 refine g_6 mixed J L 6 [[], [0], [1], [], [3], [4]] [(Yd.val (Value.agg #[(Value.int .i64 m.scale), vk])), (Yd.val (Value.agg #[(Value.int .i64 ((e_5 m).1)), (Value.int .i64 ((e_5 m).2))])), (Yd.val (Value.int .i64 ((e_5 m).1))), (Yd.val (Value.agg #[(Value.int .i64 m.scale), vk])), (Yd.val (Value.agg #[(Value.int .i64 ((e_5 m).1)), (Value.int .i64 ((e_5 m).2))])), (Yd.val (Value.int .i64 ((e_5 m).2)))] (by decide +kernel) rfl rfl ?_ ?_
 ·skip
  refine dq (fun a w hA hS hd => c_4 rfl ac_1 (hA.ev rfl) (hS.bk 0 rfl) (l := [(Value.int .i64 m.scale), vk]) rfl rfl) ?_
  refine ⟨fun a w hA hS hd => by have S := hx hd 0; exact d_9 rfl (dx (a_6 rfl en_37 (ev1 (b_9 S)) (rbias_ok _ m _ _ (hS.sk 1 rfl) hm (by omega))) hS (fun _ => rfl)), ?_⟩
  refine dq (fun a w hA hS hd => op_fieldV rfl (hq hd 1) (bd_fv_27_0_i64i64 _ _)) ?_
  refine dq (fun a w hA hS hd => c_4 rfl ac_1 (hA.ev rfl) (hS.bk 0 rfl) (l := [(Value.int .i64 m.scale), vk]) rfl rfl) ?_
  refine ⟨fun a w hA hS hd => by have T := hx hd 3; exact d_9 rfl (dx (a_6 rfl en_37 (ev1 (b_9 T)) (rbias_ok _ m _ _ (hS.sk 1 rfl) hm (by omega))) hS (fun _ => rfl)), ?_⟩
  refine dq (fun a w hA hS hd => op_fieldV rfl (hq hd 4) (bd_fv_27_1_i64i64 _ _)) ?_
  trivial
 intro O V E M D; clear J L
 have F := E.add (hz D 2); clear E
 have A := F.add (hz D 5); clear F
 clear D
 refine s1 A (g_9 rfl (A.ev rfl) (A.ev rfl)) fun P C => ?_; clear A O
 refine s1 C (a_1 rfl (C.ev rfl)) fun U G => ?_; clear C P
 refine n1 ?_
 refine c_8 ?_
 refine a_9 G (.inl rfl) (a_2 G rfl (.tmp rfl)) ?_
 exact ⟨rfl, M.ext⟩
end Go.Proofs.Ytohgladndklciaa

namespace Go.Proofs.Ytohgladndklciaa
open Go.RowKit Go.Shelf Go.Eng Go.Hard
theorem k_8 : Try.prog.underlying 104 = some (.slice 107) := by kernel_rfl
theorem j_0 : tyK Try.prog 107 = some (true, 2) := by kernel_rfl
theorem en_119 : ∀ args w, (callFunc 119 args).run Try.prog w = .ok (.enter 119 args) w := enters_of Try.func119 (by kernel_rfl) rfl
theorem ty_149 : tyK Try.prog 149 = some (false, 1) := by kernel_rfl
theorem en_112 : ∀ args w, (callFunc 112 args).run Try.prog w = .ok (.enter 112 args) w := enters_of Try.func112 (by kernel_rfl) rfl
theorem en_111 : ∀ args w, (callFunc 111 args).run Try.prog w = .ok (.enter 111 args) w := enters_of Try.func111 (by kernel_rfl) rfl
theorem en_120 : ∀ args w, (callFunc 120 args).run Try.prog w = .ok (.enter 120 args) w := enters_of Try.func120 (by kernel_rfl) rfl
theorem ty_151 : tyK Try.prog 151 = some (false, 1) := by kernel_rfl
theorem en_114 : ∀ args w, (callFunc 114 args).run Try.prog w = .ok (.enter 114 args) w := enters_of Try.func114 (by kernel_rfl) rfl
theorem en_113 : ∀ args w, (callFunc 113 args).run Try.prog w = .ok (.enter 113 args) w := enters_of Try.func113 (by kernel_rfl) rfl
theorem p_0 : Try.prog.underlying 53 = some (.slice 98) := by kernel_rfl
theorem z_2 : tyK Try.prog 98 = some (true, 2) := by kernel_rfl
theorem en_117 : ∀ args w, (callFunc 117 args).run Try.prog w = .ok (.enter 117 args) w := enters_of Try.func117 (by kernel_rfl) rfl
theorem ty_141 : tyK Try.prog 141 = some (false, 1) := by kernel_rfl
theorem en_107 : ∀ args w, (callFunc 107 args).run Try.prog w = .ok (.enter 107 args) w := enters_of Try.func107 (by kernel_rfl) rfl
theorem en_106 : ∀ args w, (callFunc 106 args).run Try.prog w = .ok (.enter 106 args) w := enters_of Try.func106 (by kernel_rfl) rfl
theorem en_115 : ∀ args w, (callFunc 115 args).run Try.prog w = .ok (.enter 115 args) w := enters_of Try.func115 (by kernel_rfl) rfl
theorem ty_112 : tyK Try.prog 112 = some (false, 1) := by kernel_rfl
theorem en_100 : ∀ args w, (callFunc 100 args).run Try.prog w = .ok (.enter 100 args) w := enters_of Try.func100 (by kernel_rfl) rfl
theorem en_99 : ∀ args w, (callFunc 99 args).run Try.prog w = .ok (.enter 99 args) w := enters_of Try.func99 (by kernel_rfl) rfl
theorem un_50 : Try.prog.underlying 50 = some (.slice 30) := by kernel_rfl
theorem en_118 : ∀ args w, (callFunc 118 args).run Try.prog w = .ok (.enter 118 args) w := enters_of Try.func118 (by kernel_rfl) rfl
theorem aa_9 : Try.prog.underlying 34 = some (.slice 106) := by kernel_rfl
theorem l_7 : tyK Try.prog 106 = some (true, 5) := by kernel_rfl
theorem en_109 : ∀ args w, (callFunc 109 args).run Try.prog w = .ok (.enter 109 args) w := enters_of Try.func109 (by kernel_rfl) rfl
theorem ty_127 : tyK Try.prog 127 = some (false, 1) := by kernel_rfl
theorem en_90 : ∀ args w, (callFunc 90 args).run Try.prog w = .ok (.enter 90 args) w := enters_of Try.func90 (by kernel_rfl) rfl
theorem en_89 : ∀ args w, (callFunc 89 args).run Try.prog w = .ok (.enter 89 args) w := enters_of Try.func89 (by kernel_rfl) rfl
theorem ac_8 : Try.prog.underlying 35 = some (.slice 103) := by kernel_rfl
theorem u_7 : tyK Try.prog 103 = some (true, 2) := by kernel_rfl
theorem en_110 : ∀ args w, (callFunc 110 args).run Try.prog w = .ok (.enter 110 args) w := enters_of Try.func110 (by kernel_rfl) rfl
theorem ty_129 : tyK Try.prog 129 = some (false, 1) := by kernel_rfl
theorem en_92 : ∀ args w, (callFunc 92 args).run Try.prog w = .ok (.enter 92 args) w := enters_of Try.func92 (by kernel_rfl) rfl
theorem en_91 : ∀ args w, (callFunc 91 args).run Try.prog w = .ok (.enter 91 args) w := enters_of Try.func91 (by kernel_rfl) rfl
theorem indexf_row (xs : List (Int × Int)) (v : Value) (fid : Nat) (fs cs : Array Value) (p : Nat → Bool) (w : World) (hv : SlAt w v 2 xs.length (pairs xs)) (hlen : xs.length ≤ 1000000) (hf : Asks Try.prog w fid fs cs xs.length (fun i => (Value.agg #[(Value.int .i64 ((xs.getD i (0, 0)).1)), (Value.int .i64 ((xs.getD i (0, 0)).2))])) p) :
  Calls Try.prog 119 #[v, (Value.func (.func fid) fs cs)] w (Ret fun v w' => v = .int .i64 (fidx p xs.length) ∧ Ext NoB w w') := by
 refine a_8 Try.func119 rfl fun g R => ?_
 replace R : Fr 19 [] [(0, v), (1, (Value.func (.func fid) fs cs))] g := R
 have W : Sep NoB w w [(sl v 2 xs.length (pairs xs))] := f_0 ⟨rfl, hv, trivial⟩
 refine m2 ?_
 refine s1 R (a_1 rfl (evc _ _)) fun x S => ?_; clear R g
 refine n2 ?_
 refine m2 ?_
 refine s1 S (a_0 rfl (S.ev rfl)) fun y T => ?_; clear S x
 refine s1 T (c_0 rfl k_8 (T.ev rfl) (W.ok 0 _ rfl)) fun z b => ?_; clear T y
 refine s1 b (a_0 rfl (evc _ _)) fun a7 c => ?_; clear b z
 refine n1 ?_
 refine d_0 ?_
 have d := c.as [(8, (Value.int .i64 0)), (7, (Value.int .i64 (xs.length : Int))), (0, v), (1, (Value.func (.func fid) fs cs))] rfl; clear c
 refine h_3 (G := Nat) (fun (k : Nat) a_ w_ => Fr 19 [] [(8, (Value.int .i64 (k : Int))), (7, (Value.int .i64 (xs.length : Int))), (0, v), (1, (Value.func (.func fid) fs cs))] a_ ∧ Sep NoB w w_ [(sl v 2 xs.length (pairs xs))] ∧ (k ≤ xs.length) ∧ (∀ i, i < k → p i = false)) (fun k => xs.length - k) 0 ⟨d.as _ rfl, W, by omega, by omega⟩ ?_
 clear d W a7
 rintro k j AE ⟨D, C, hk, hn⟩
 refine m2 ?_
 refine s1 D (f_9 rfl (D.ev rfl) (D.ev rfl)) fun Z A => ?_; clear D j
 refine n2 ?_
 by_cases Y : (k : Int) < (xs.length : Int)
 ·skip
  rw [decide_eq_true Y] at A
  refine c_6 A rfl ?_
  refine d_1 ?_
  refine b_0 ?_
  refine b_7 ?_
  refine d_0 ?_
  refine m2 ?_
  refine s1 A (a_0 rfl (A.ev rfl)) fun l H => ?_; clear A Z
  refine s1 H (a_1 rfl (H.ev rfl)) fun m I => ?_; clear H l
  refine n4 ?_
  refine s1 I (a_0 rfl (I.ev rfl)) fun n J => ?_; clear I m
  refine s1 J (a_0 rfl (J.ev rfl)) fun o K => ?_; clear J n
  refine s1 K (a_0 rfl (K.ev rfl)) fun q E => ?_; clear K o
  refine s1 E (b_2 rfl k_8 j_0 (E.ev rfl) (i := k) (E.ev rfl) (C.ok 0 _ rfl) (by decide) (by omega)) fun r L => ?_; clear E q
  refine s1 L (f_2 rfl j_0 (L.ev rfl) (C.ok 0 _ rfl) (i_3 (by omega)) rfl (by decide)) fun s F => ?_; clear L r
  refine s2 F (i_5 rfl (F.ev rfl) hf.1 (ev1 (F.ev rfl)) (hf.2 k (by omega) _ C.ext)) ?_
  rintro a _ AF ⟨rfl, f⟩ B; have X := C.step f; clear F C s
  refine n1 ?_
  rcases Bool.eq_false_or_eq_true (p k) with Q | Q
  ·skip
   rw [Q] at B
   refine c_6 B rfl ?_
   refine b_7 ?_
   have M := B.as [(5, (Value.int .i64 (k : Int)))] rfl; clear B
   refine a_5 ?_
   refine s1 M (a_0 rfl (M.ev rfl)) fun t N => ?_; clear M a
   refine s1 N (a_1 rfl (N.ev rfl)) fun AB U => ?_; clear N t
   refine n1 ?_
   refine c_8 ?_
   refine d_3 ?_
   refine a_7 ?_
   refine a_7 ?_
   refine d_3 ?_
   refine a_7 ?_
   refine a_9 U (.inl rfl) (a_2 U rfl (.tmp rfl)) ?_
   exact ⟨by first | rw [k_7 (by omega) hn (by assumption)] | rw [j_2 (fun i hi => hn i (by omega))], X.ext⟩
  skip
  rw [Q] at B
  refine b_5 B rfl ?_
  refine d_1 ?_
  refine g_8 ?_
  refine b_0 ?_
  have O := B.as [(8, (Value.int .i64 (k : Int))), (7, (Value.int .i64 (xs.length : Int))), (0, v), (1, (Value.func (.func fid) fs cs))] rfl; clear B
  refine a_5 ?_
  refine s1 O (f_6 rfl (O.ev rfl) (evc _ _) (by omega) (by omega)) fun u P => ?_; clear O a
  refine s1 P (a_0 rfl (P.ev rfl)) fun AC e => ?_; clear P u
  refine e_8 ?_
  exact b_0 ⟨k + 1, ⟨e.as _ rfl, X, by omega, (fun i hi => by rcases Nat.lt_succ_iff_lt_or_eq.1 hi with h | h; exact hn i h; subst h; assumption)⟩, by omega⟩
 skip
 rw [decide_eq_false Y] at A
 refine b_5 A rfl ?_
 refine h_1 ?_
 refine b_4 ?_
 refine b_4 ?_
 refine f_7 ?_
 refine b_0 ?_
 refine m2 ?_
 refine s1 A (a_1 rfl (evc _ _)) fun AD V => ?_; clear A Z
 refine n1 ?_
 refine c_8 ?_
 refine a_9 V (.inl rfl) (a_2 V rfl (.tmp rfl)) ?_
 exact ⟨by first | rw [k_7 (by omega) hn (by assumption)] | rw [j_2 (fun i hi => hn i (by omega))], C.ext⟩
theorem contf_row (xs : List (Int × Int)) (v : Value) (fid : Nat) (fs cs : Array Value) (p : Nat → Bool) (w : World) (hv : SlAt w v 2 xs.length (pairs xs)) (hlen : xs.length ≤ 1000000) (hf : Asks Try.prog w fid fs cs xs.length (fun i => (Value.agg #[(Value.int .i64 ((xs.getD i (0, 0)).1)), (Value.int .i64 ((xs.getD i (0, 0)).2))])) p) :
  Calls Try.prog 111 #[v, (Value.func (.func fid) fs cs)] w (Ret fun v w' => v = .bool ((List.range xs.length).any p) ∧ Ext NoB w w') := by
 refine a_8 Try.func111 rfl fun K B => ?_
 replace B : Fr 9 [] [(0, v), (1, (Value.func (.func fid) fs cs))] K := B
 have D : Sep NoB w w [(sl v 2 xs.length (pairs xs))] := f_0 ⟨rfl, hv, trivial⟩
 refine m2 ?_
 refine s1 B (a_1 rfl (evc _ _)) fun M F => ?_; clear B K
 refine n4 ?_
 refine s1 F (a_0 rfl (F.ev rfl)) fun N G => ?_; clear F M
 refine s1 G (a_0 rfl (G.ev rfl)) fun O C => ?_; clear G N
 refine s2 C (a_6 rfl en_119 (ev2 (C.ev rfl) (C.ev rfl)) (indexf_row xs _ _ _ _ p _ (D.ok 0 _ rfl) hlen (hf.step D.ext))) ?_
 rintro P _ R ⟨rfl, I⟩ H; have J := D.step I; clear I C D O
 refine s1 H (w_7 rfl (H.ev rfl) (evc _ _)) fun L A => ?_; clear H P
 refine s1 A (a_1 rfl (A.ev rfl)) fun Q E => ?_; clear A L
 refine n1 ?_
 refine c_8 ?_
 refine a_9 E (.inl rfl) (a_2 E rfl (.tmp rfl)) ?_
 exact ⟨congrArg Value.bool (s_4 p xs.length), J.ext⟩
theorem clo_row (I J : Int) (b fid : Nat) (fs cs : Array Value) (q : Bool) (w : World) (hb : (blk b 149 [.func (.func fid) fs cs]).p w) (hen : ∀ args W, (callFunc fid args).run Try.prog W = .ok (.enter fid args) W) (hf : ∀ W, Ext NoB w W → Calls Try.prog fid (fs ++ #[(Value.agg #[(Value.int .i64 I), (Value.int .i64 J)])] ++ cs) W (Ret fun v w' => v = .bool q ∧ Ext NoB W w')) :
  Calls Try.prog 112 #[(Value.agg #[(Value.int .i64 I), (Value.int .i64 J)]), (bptr b 0)] w (Ret fun v w' => v = .bool (!q) ∧ Ext NoB w w') := by
 refine a_8 Try.func112 rfl fun O B => ?_
 replace B : Fr 8 [] [(0, (Value.agg #[(Value.int .i64 I), (Value.int .i64 J)])), (1, (bptr b 0))] O := B
 have L : Sep NoB w w [(rob b 149 [(Value.func (.func fid) fs cs)])] := f_0 ⟨rfl, hb, trivial⟩
 refine m2 ?_
 refine s2 B (f_3 L rfl (B.ev rfl) (cs := [(Value.int .i64 I), (Value.int .i64 J)]) rfl) ?_
 rintro S _ Z ⟨Y, rfl, C⟩ K; clear B L O
 refine s1 K (a_1 rfl (evc _ _)) fun T G => ?_; clear K S
 refine n4 ?_
 refine s1 G (a_3 rfl ty_149 (G.ev rfl) (C.rk 1 rfl) rfl) fun U H => ?_; clear G T
 refine s1 H (c_4 rfl j_0 (H.ev rfl) (C.bk 0 rfl) (l := [(Value.int .i64 I), (Value.int .i64 J)]) rfl rfl) fun P A => ?_; clear H U
 refine s2 A (i_5 rfl (A.ev rfl) hen (ev1 (A.ev rfl)) (hf _ C.ext)) ?_
 rintro Q _ X ⟨rfl, M⟩ D; have N := C.step M; clear A C P
 refine s1 D (f_4 rfl (D.ev rfl)) fun R E => ?_; clear D Q
 refine s1 E (a_1 rfl (E.ev rfl)) fun V F => ?_; clear E R
 refine n1 ?_
 refine c_8 ?_
 refine a_9 F (.inl rfl) (a_2 F rfl (.tmp rfl)) ?_
 exact ⟨rfl, N.ext⟩
theorem all_row (xs : List (Int × Int)) (v : Value) (fid : Nat) (fs cs : Array Value) (p : Nat → Bool) (w : World) (hv : SlAt w v 2 xs.length (pairs xs)) (hlen : xs.length ≤ 1000000) (hf : Asks Try.prog w fid fs cs xs.length (fun i => (Value.agg #[(Value.int .i64 ((xs.getD i (0, 0)).1)), (Value.int .i64 ((xs.getD i (0, 0)).2))])) p) :
  Calls Try.prog 94 #[v, (Value.func (.func fid) fs cs)] w (Ret fun v w' => v = .bool ((List.range xs.length).all p) ∧ Ext NoB w w') := by
 refine a_8 Try.func94 rfl fun M B => ?_
 replace B : Fr 9 [] [(0, v), (1, (Value.func (.func fid) fs cs))] M := B
 have K : Sep NoB w w [(sl v 2 xs.length (pairs xs))] := f_0 ⟨rfl, hv, trivial⟩
 refine m2 ?_
 refine s2 B (f_3 K rfl (B.ev rfl) (cs := [(Value.func (.func fid) fs cs)]) rfl) ?_
 rintro Q _ X ⟨T, rfl, C⟩ J; clear B K M
 refine s1 J (a_1 rfl (evc _ _)) fun R G => ?_; clear J Q
 refine n4 ?_
 refine s1 G (a_0 rfl (G.ev rfl)) fun S H => ?_; clear G R
 refine s1 H (i_0 rfl ev0 (ev1 (H.ev rfl))) fun N A => ?_; clear H S
 refine s2 A (a_6 rfl en_111 (ev2 (A.ev rfl) (A.ev rfl)) (contf_row xs _ 112 #[] #[(bptr T 0)] (fun i => !p i) _ (C.ok 1 _ rfl) hlen ⟨en_112, fun i hi W hW => clo_row _ _ _ _ _ _ (p i) W ((C.step hW).bk 0 rfl) hf.1 (fun W' hW' => hf.2 i hi W' (C.ext.trans (hW.trans hW')))⟩)) ?_
 rintro O _ V ⟨rfl, I⟩ D; have L := C.step I; clear I A C N
 refine s1 D (f_4 rfl (D.ev rfl)) fun P E => ?_; clear D O
 refine s1 E (a_1 rfl (E.ev rfl)) fun U F => ?_; clear E P
 refine n1 ?_
 refine c_8 ?_
 refine a_9 F (.inl rfl) (a_2 F rfl (.tmp rfl)) ?_
 exact ⟨congrArg Value.bool (any_not p xs.length), L.ext⟩
theorem indexf_blk (xs : List (Int × Int × Int)) (v : Value) (fid : Nat) (fs cs : Array Value) (p : Nat → Bool) (w : World) (hv : SlAt w v 3 xs.length (trips xs)) (hlen : xs.length ≤ 1000000) (hf : Asks Try.prog w fid fs cs xs.length (fun i => (Value.agg #[(Value.int .i64 ((xs.getD i (0, 0, 0)).1)), (Value.int .i64 ((xs.getD i (0, 0, 0)).2.1)), (Value.int .i64 ((xs.getD i (0, 0, 0)).2.2))])) p) :
  Calls Try.prog 120 #[v, (Value.func (.func fid) fs cs)] w (Ret fun v w' => v = .int .i64 (fidx p xs.length) ∧ Ext NoB w w') := by
 refine a_8 Try.func120 rfl fun g R => ?_
 replace R : Fr 19 [] [(0, v), (1, (Value.func (.func fid) fs cs))] g := R
 have W : Sep NoB w w [(sl v 3 xs.length (trips xs))] := f_0 ⟨rfl, hv, trivial⟩
 refine m2 ?_
 refine s1 R (a_1 rfl (evc _ _)) fun x S => ?_; clear R g
 refine n2 ?_
 refine m2 ?_
 refine s1 S (a_0 rfl (S.ev rfl)) fun y T => ?_; clear S x
 refine s1 T (c_0 rfl ab_4 (T.ev rfl) (W.ok 0 _ rfl)) fun z b => ?_; clear T y
 refine s1 b (a_0 rfl (evc _ _)) fun a7 c => ?_; clear b z
 refine n1 ?_
 refine d_0 ?_
 have d := c.as [(8, (Value.int .i64 0)), (7, (Value.int .i64 (xs.length : Int))), (0, v), (1, (Value.func (.func fid) fs cs))] rfl; clear c
 refine h_3 (G := Nat) (fun (k : Nat) a_ w_ => Fr 19 [] [(8, (Value.int .i64 (k : Int))), (7, (Value.int .i64 (xs.length : Int))), (0, v), (1, (Value.func (.func fid) fs cs))] a_ ∧ Sep NoB w w_ [(sl v 3 xs.length (trips xs))] ∧ (k ≤ xs.length) ∧ (∀ i, i < k → p i = false)) (fun k => xs.length - k) 0 ⟨d.as _ rfl, W, by omega, by omega⟩ ?_
 clear d W a7
 rintro k j AE ⟨D, C, hk, hn⟩
 refine m2 ?_
 refine s1 D (f_9 rfl (D.ev rfl) (D.ev rfl)) fun Z A => ?_; clear D j
 refine n2 ?_
 by_cases Y : (k : Int) < (xs.length : Int)
 ·skip
  rw [decide_eq_true Y] at A
  refine c_6 A rfl ?_
  refine d_1 ?_
  refine b_0 ?_
  refine b_7 ?_
  refine d_0 ?_
  refine m2 ?_
  refine s1 A (a_0 rfl (A.ev rfl)) fun l H => ?_; clear A Z
  refine s1 H (a_1 rfl (H.ev rfl)) fun m I => ?_; clear H l
  refine n4 ?_
  refine s1 I (a_0 rfl (I.ev rfl)) fun n J => ?_; clear I m
  refine s1 J (a_0 rfl (J.ev rfl)) fun o K => ?_; clear J n
  refine s1 K (a_0 rfl (K.ev rfl)) fun q E => ?_; clear K o
  refine s1 E (b_2 rfl ab_4 ab_3 (E.ev rfl) (i := k) (E.ev rfl) (C.ok 0 _ rfl) (by decide) (by omega)) fun r L => ?_; clear E q
  refine s1 L (f_2 rfl ab_3 (L.ev rfl) (C.ok 0 _ rfl) (x_0 (by omega)) rfl (by decide)) fun s F => ?_; clear L r
  refine s2 F (i_5 rfl (F.ev rfl) hf.1 (ev1 (F.ev rfl)) (hf.2 k (by omega) _ C.ext)) ?_
  rintro a _ AF ⟨rfl, f⟩ B; have X := C.step f; clear F C s
  refine n1 ?_
  rcases Bool.eq_false_or_eq_true (p k) with Q | Q
  ·skip
   rw [Q] at B
   refine c_6 B rfl ?_
   refine b_7 ?_
   have M := B.as [(5, (Value.int .i64 (k : Int)))] rfl; clear B
   refine a_5 ?_
   refine s1 M (a_0 rfl (M.ev rfl)) fun t N => ?_; clear M a
   refine s1 N (a_1 rfl (N.ev rfl)) fun AB U => ?_; clear N t
   refine n1 ?_
   refine c_8 ?_
   refine d_3 ?_
   refine a_7 ?_
   refine a_7 ?_
   refine d_3 ?_
   refine a_7 ?_
   refine a_9 U (.inl rfl) (a_2 U rfl (.tmp rfl)) ?_
   exact ⟨by first | rw [k_7 (by omega) hn (by assumption)] | rw [j_2 (fun i hi => hn i (by omega))], X.ext⟩
  skip
  rw [Q] at B
  refine b_5 B rfl ?_
  refine d_1 ?_
  refine g_8 ?_
  refine b_0 ?_
  have O := B.as [(8, (Value.int .i64 (k : Int))), (7, (Value.int .i64 (xs.length : Int))), (0, v), (1, (Value.func (.func fid) fs cs))] rfl; clear B
  refine a_5 ?_
  refine s1 O (f_6 rfl (O.ev rfl) (evc _ _) (by omega) (by omega)) fun u P => ?_; clear O a
  refine s1 P (a_0 rfl (P.ev rfl)) fun AC e => ?_; clear P u
  refine e_8 ?_
  exact b_0 ⟨k + 1, ⟨e.as _ rfl, X, by omega, (fun i hi => by rcases Nat.lt_succ_iff_lt_or_eq.1 hi with h | h; exact hn i h; subst h; assumption)⟩, by omega⟩
 skip
 rw [decide_eq_false Y] at A
 refine b_5 A rfl ?_
 refine h_1 ?_
 refine b_4 ?_
 refine b_4 ?_
 refine f_7 ?_
 refine b_0 ?_
 refine m2 ?_
 refine s1 A (a_1 rfl (evc _ _)) fun AD V => ?_; clear A Z
 refine n1 ?_
 refine c_8 ?_
 refine a_9 V (.inl rfl) (a_2 V rfl (.tmp rfl)) ?_
 exact ⟨by first | rw [k_7 (by omega) hn (by assumption)] | rw [j_2 (fun i hi => hn i (by omega))], C.ext⟩
theorem contf_blk (xs : List (Int × Int × Int)) (v : Value) (fid : Nat) (fs cs : Array Value) (p : Nat → Bool) (w : World) (hv : SlAt w v 3 xs.length (trips xs)) (hlen : xs.length ≤ 1000000) (hf : Asks Try.prog w fid fs cs xs.length (fun i => (Value.agg #[(Value.int .i64 ((xs.getD i (0, 0, 0)).1)), (Value.int .i64 ((xs.getD i (0, 0, 0)).2.1)), (Value.int .i64 ((xs.getD i (0, 0, 0)).2.2))])) p) :
  Calls Try.prog 113 #[v, (Value.func (.func fid) fs cs)] w (Ret fun v w' => v = .bool ((List.range xs.length).any p) ∧ Ext NoB w w') := by
 refine a_8 Try.func113 rfl fun K B => ?_
 replace B : Fr 9 [] [(0, v), (1, (Value.func (.func fid) fs cs))] K := B
 have D : Sep NoB w w [(sl v 3 xs.length (trips xs))] := f_0 ⟨rfl, hv, trivial⟩
 refine m2 ?_
 refine s1 B (a_1 rfl (evc _ _)) fun M F => ?_; clear B K
 refine n4 ?_
 refine s1 F (a_0 rfl (F.ev rfl)) fun N G => ?_; clear F M
 refine s1 G (a_0 rfl (G.ev rfl)) fun O C => ?_; clear G N
 refine s2 C (a_6 rfl en_120 (ev2 (C.ev rfl) (C.ev rfl)) (indexf_blk xs _ _ _ _ p _ (D.ok 0 _ rfl) hlen (hf.step D.ext))) ?_
 rintro P _ R ⟨rfl, I⟩ H; have J := D.step I; clear I C D O
 refine s1 H (w_7 rfl (H.ev rfl) (evc _ _)) fun L A => ?_; clear H P
 refine s1 A (a_1 rfl (A.ev rfl)) fun Q E => ?_; clear A L
 refine n1 ?_
 refine c_8 ?_
 refine a_9 E (.inl rfl) (a_2 E rfl (.tmp rfl)) ?_
 exact ⟨congrArg Value.bool (s_4 p xs.length), J.ext⟩
theorem clo_blk (I J K : Int) (b fid : Nat) (fs cs : Array Value) (q : Bool) (w : World) (hb : (blk b 151 [.func (.func fid) fs cs]).p w) (hen : ∀ args W, (callFunc fid args).run Try.prog W = .ok (.enter fid args) W) (hf : ∀ W, Ext NoB w W → Calls Try.prog fid (fs ++ #[(Value.agg #[(Value.int .i64 I), (Value.int .i64 J), (Value.int .i64 K)])] ++ cs) W (Ret fun v w' => v = .bool q ∧ Ext NoB W w')) :
  Calls Try.prog 114 #[(Value.agg #[(Value.int .i64 I), (Value.int .i64 J), (Value.int .i64 K)]), (bptr b 0)] w (Ret fun v w' => v = .bool (!q) ∧ Ext NoB w w') := by
 refine a_8 Try.func114 rfl fun P B => ?_
 replace B : Fr 8 [] [(0, (Value.agg #[(Value.int .i64 I), (Value.int .i64 J), (Value.int .i64 K)])), (1, (bptr b 0))] P := B
 have M : Sep NoB w w [(rob b 151 [(Value.func (.func fid) fs cs)])] := f_0 ⟨rfl, hb, trivial⟩
 refine m2 ?_
 refine s2 B (f_3 M rfl (B.ev rfl) (cs := [(Value.int .i64 I), (Value.int .i64 J), (Value.int .i64 K)]) rfl) ?_
 rintro T _ a ⟨Z, rfl, C⟩ L; clear B M P
 refine s1 L (a_1 rfl (evc _ _)) fun U G => ?_; clear L T
 refine n4 ?_
 refine s1 G (a_3 rfl ty_151 (G.ev rfl) (C.rk 1 rfl) rfl) fun V H => ?_; clear G U
 refine s1 H (c_4 rfl ab_3 (H.ev rfl) (C.bk 0 rfl) (l := [(Value.int .i64 I), (Value.int .i64 J), (Value.int .i64 K)]) rfl rfl) fun Q A => ?_; clear H V
 refine s2 A (i_5 rfl (A.ev rfl) hen (ev1 (A.ev rfl)) (hf _ C.ext)) ?_
 rintro R _ Y ⟨rfl, N⟩ D; have O := C.step N; clear A C Q
 refine s1 D (f_4 rfl (D.ev rfl)) fun S E => ?_; clear D R
 refine s1 E (a_1 rfl (E.ev rfl)) fun X F => ?_; clear E S
 refine n1 ?_
 refine c_8 ?_
 refine a_9 F (.inl rfl) (a_2 F rfl (.tmp rfl)) ?_
 exact ⟨rfl, O.ext⟩
theorem all_blk (xs : List (Int × Int × Int)) (v : Value) (fid : Nat) (fs cs : Array Value) (p : Nat → Bool) (w : World) (hv : SlAt w v 3 xs.length (trips xs)) (hlen : xs.length ≤ 1000000) (hf : Asks Try.prog w fid fs cs xs.length (fun i => (Value.agg #[(Value.int .i64 ((xs.getD i (0, 0, 0)).1)), (Value.int .i64 ((xs.getD i (0, 0, 0)).2.1)), (Value.int .i64 ((xs.getD i (0, 0, 0)).2.2))])) p) :
  Calls Try.prog 97 #[v, (Value.func (.func fid) fs cs)] w (Ret fun v w' => v = .bool ((List.range xs.length).all p) ∧ Ext NoB w w') := by
 refine a_8 Try.func97 rfl fun M B => ?_
 replace B : Fr 9 [] [(0, v), (1, (Value.func (.func fid) fs cs))] M := B
 have K : Sep NoB w w [(sl v 3 xs.length (trips xs))] := f_0 ⟨rfl, hv, trivial⟩
 refine m2 ?_
 refine s2 B (f_3 K rfl (B.ev rfl) (cs := [(Value.func (.func fid) fs cs)]) rfl) ?_
 rintro Q _ X ⟨T, rfl, C⟩ J; clear B K M
 refine s1 J (a_1 rfl (evc _ _)) fun R G => ?_; clear J Q
 refine n4 ?_
 refine s1 G (a_0 rfl (G.ev rfl)) fun S H => ?_; clear G R
 refine s1 H (i_0 rfl ev0 (ev1 (H.ev rfl))) fun N A => ?_; clear H S
 refine s2 A (a_6 rfl en_113 (ev2 (A.ev rfl) (A.ev rfl)) (contf_blk xs _ 114 #[] #[(bptr T 0)] (fun i => !p i) _ (C.ok 1 _ rfl) hlen ⟨en_114, fun i hi W hW => clo_blk _ _ _ _ _ _ _ (p i) W ((C.step hW).bk 0 rfl) hf.1 (fun W' hW' => hf.2 i hi W' (C.ext.trans (hW.trans hW')))⟩)) ?_
 rintro O _ V ⟨rfl, I⟩ D; have L := C.step I; clear I A C N
 refine s1 D (f_4 rfl (D.ev rfl)) fun P E => ?_; clear D O
 refine s1 E (a_1 rfl (E.ev rfl)) fun U F => ?_; clear E P
 refine n1 ?_
 refine c_8 ?_
 refine a_9 F (.inl rfl) (a_2 F rfl (.tmp rfl)) ?_
 exact ⟨congrArg Value.bool (any_not p xs.length), L.ext⟩
theorem indexf_read (xs : List (Int × Int)) (v : Value) (fid : Nat) (fs cs : Array Value) (p : Nat → Bool) (w : World) (hv : SlAt w v 2 xs.length (pairs xs)) (hlen : xs.length ≤ 1000000) (hf : Asks Try.prog w fid fs cs xs.length (fun i => (Value.agg #[(Value.int .i64 ((xs.getD i (0, 0)).1)), (Value.int .i64 ((xs.getD i (0, 0)).2))])) p) :
  Calls Try.prog 117 #[v, (Value.func (.func fid) fs cs)] w (Ret fun v w' => v = .int .i64 (fidx p xs.length) ∧ Ext NoB w w') := by
 refine a_8 Try.func117 rfl fun g R => ?_
 replace R : Fr 19 [] [(0, v), (1, (Value.func (.func fid) fs cs))] g := R
 have W : Sep NoB w w [(sl v 2 xs.length (pairs xs))] := f_0 ⟨rfl, hv, trivial⟩
 refine m2 ?_
 refine s1 R (a_1 rfl (evc _ _)) fun x S => ?_; clear R g
 refine n2 ?_
 refine m2 ?_
 refine s1 S (a_0 rfl (S.ev rfl)) fun y T => ?_; clear S x
 refine s1 T (c_0 rfl p_0 (T.ev rfl) (W.ok 0 _ rfl)) fun z b => ?_; clear T y
 refine s1 b (a_0 rfl (evc _ _)) fun a7 c => ?_; clear b z
 refine n1 ?_
 refine d_0 ?_
 have d := c.as [(8, (Value.int .i64 0)), (7, (Value.int .i64 (xs.length : Int))), (0, v), (1, (Value.func (.func fid) fs cs))] rfl; clear c
 refine h_3 (G := Nat) (fun (k : Nat) a_ w_ => Fr 19 [] [(8, (Value.int .i64 (k : Int))), (7, (Value.int .i64 (xs.length : Int))), (0, v), (1, (Value.func (.func fid) fs cs))] a_ ∧ Sep NoB w w_ [(sl v 2 xs.length (pairs xs))] ∧ (k ≤ xs.length) ∧ (∀ i, i < k → p i = false)) (fun k => xs.length - k) 0 ⟨d.as _ rfl, W, by omega, by omega⟩ ?_
 clear d W a7
 rintro k j AE ⟨D, C, hk, hn⟩
 refine m2 ?_
 refine s1 D (f_9 rfl (D.ev rfl) (D.ev rfl)) fun Z A => ?_; clear D j
 refine n2 ?_
 by_cases Y : (k : Int) < (xs.length : Int)
 ·skip
  rw [decide_eq_true Y] at A
  refine c_6 A rfl ?_
  refine d_1 ?_
  refine b_0 ?_
  refine b_7 ?_
  refine d_0 ?_
  refine m2 ?_
  refine s1 A (a_0 rfl (A.ev rfl)) fun l H => ?_; clear A Z
  refine s1 H (a_1 rfl (H.ev rfl)) fun m I => ?_; clear H l
  refine n4 ?_
  refine s1 I (a_0 rfl (I.ev rfl)) fun n J => ?_; clear I m
  refine s1 J (a_0 rfl (J.ev rfl)) fun o K => ?_; clear J n
  refine s1 K (a_0 rfl (K.ev rfl)) fun q E => ?_; clear K o
  refine s1 E (b_2 rfl p_0 z_2 (E.ev rfl) (i := k) (E.ev rfl) (C.ok 0 _ rfl) (by decide) (by omega)) fun r L => ?_; clear E q
  refine s1 L (f_2 rfl z_2 (L.ev rfl) (C.ok 0 _ rfl) (i_3 (by omega)) rfl (by decide)) fun s F => ?_; clear L r
  refine s2 F (i_5 rfl (F.ev rfl) hf.1 (ev1 (F.ev rfl)) (hf.2 k (by omega) _ C.ext)) ?_
  rintro a _ AF ⟨rfl, f⟩ B; have X := C.step f; clear F C s
  refine n1 ?_
  rcases Bool.eq_false_or_eq_true (p k) with Q | Q
  ·skip
   rw [Q] at B
   refine c_6 B rfl ?_
   refine b_7 ?_
   have M := B.as [(5, (Value.int .i64 (k : Int)))] rfl; clear B
   refine a_5 ?_
   refine s1 M (a_0 rfl (M.ev rfl)) fun t N => ?_; clear M a
   refine s1 N (a_1 rfl (N.ev rfl)) fun AB U => ?_; clear N t
   refine n1 ?_
   refine c_8 ?_
   refine d_3 ?_
   refine a_7 ?_
   refine a_7 ?_
   refine d_3 ?_
   refine a_7 ?_
   refine a_9 U (.inl rfl) (a_2 U rfl (.tmp rfl)) ?_
   exact ⟨by first | rw [k_7 (by omega) hn (by assumption)] | rw [j_2 (fun i hi => hn i (by omega))], X.ext⟩
  skip
  rw [Q] at B
  refine b_5 B rfl ?_
  refine d_1 ?_
  refine g_8 ?_
  refine b_0 ?_
  have O := B.as [(8, (Value.int .i64 (k : Int))), (7, (Value.int .i64 (xs.length : Int))), (0, v), (1, (Value.func (.func fid) fs cs))] rfl; clear B
  refine a_5 ?_
  refine s1 O (f_6 rfl (O.ev rfl) (evc _ _) (by omega) (by omega)) fun u P => ?_; clear O a
  refine s1 P (a_0 rfl (P.ev rfl)) fun AC e => ?_; clear P u
  refine e_8 ?_
  exact b_0 ⟨k + 1, ⟨e.as _ rfl, X, by omega, (fun i hi => by rcases Nat.lt_succ_iff_lt_or_eq.1 hi with h | h; exact hn i h; subst h; assumption)⟩, by omega⟩
 skip
 rw [decide_eq_false Y] at A
 refine b_5 A rfl ?_
 refine h_1 ?_
 refine b_4 ?_
 refine b_4 ?_
 refine f_7 ?_
 refine b_0 ?_
 refine m2 ?_
 refine s1 A (a_1 rfl (evc _ _)) fun AD V => ?_; clear A Z
 refine n1 ?_
 refine c_8 ?_
 refine a_9 V (.inl rfl) (a_2 V rfl (.tmp rfl)) ?_
 exact ⟨by first | rw [k_7 (by omega) hn (by assumption)] | rw [j_2 (fun i hi => hn i (by omega))], C.ext⟩
theorem contf_read (xs : List (Int × Int)) (v : Value) (fid : Nat) (fs cs : Array Value) (p : Nat → Bool) (w : World) (hv : SlAt w v 2 xs.length (pairs xs)) (hlen : xs.length ≤ 1000000) (hf : Asks Try.prog w fid fs cs xs.length (fun i => (Value.agg #[(Value.int .i64 ((xs.getD i (0, 0)).1)), (Value.int .i64 ((xs.getD i (0, 0)).2))])) p) :
  Calls Try.prog 106 #[v, (Value.func (.func fid) fs cs)] w (Ret fun v w' => v = .bool ((List.range xs.length).any p) ∧ Ext NoB w w') := by
 refine a_8 Try.func106 rfl fun K B => ?_
 replace B : Fr 9 [] [(0, v), (1, (Value.func (.func fid) fs cs))] K := B
 have D : Sep NoB w w [(sl v 2 xs.length (pairs xs))] := f_0 ⟨rfl, hv, trivial⟩
 refine m2 ?_
 refine s1 B (a_1 rfl (evc _ _)) fun M F => ?_; clear B K
 refine n4 ?_
 refine s1 F (a_0 rfl (F.ev rfl)) fun N G => ?_; clear F M
 refine s1 G (a_0 rfl (G.ev rfl)) fun O C => ?_; clear G N
 refine s2 C (a_6 rfl en_117 (ev2 (C.ev rfl) (C.ev rfl)) (indexf_read xs _ _ _ _ p _ (D.ok 0 _ rfl) hlen (hf.step D.ext))) ?_
 rintro P _ R ⟨rfl, I⟩ H; have J := D.step I; clear I C D O
 refine s1 H (w_7 rfl (H.ev rfl) (evc _ _)) fun L A => ?_; clear H P
 refine s1 A (a_1 rfl (A.ev rfl)) fun Q E => ?_; clear A L
 refine n1 ?_
 refine c_8 ?_
 refine a_9 E (.inl rfl) (a_2 E rfl (.tmp rfl)) ?_
 exact ⟨congrArg Value.bool (s_4 p xs.length), J.ext⟩
theorem clo_read (I J : Int) (b fid : Nat) (fs cs : Array Value) (q : Bool) (w : World) (hb : (blk b 141 [.func (.func fid) fs cs]).p w) (hen : ∀ args W, (callFunc fid args).run Try.prog W = .ok (.enter fid args) W) (hf : ∀ W, Ext NoB w W → Calls Try.prog fid (fs ++ #[(Value.agg #[(Value.int .i64 I), (Value.int .i64 J)])] ++ cs) W (Ret fun v w' => v = .bool q ∧ Ext NoB W w')) :
  Calls Try.prog 107 #[(Value.agg #[(Value.int .i64 I), (Value.int .i64 J)]), (bptr b 0)] w (Ret fun v w' => v = .bool (!q) ∧ Ext NoB w w') := by
 refine a_8 Try.func107 rfl fun O B => ?_
 replace B : Fr 8 [] [(0, (Value.agg #[(Value.int .i64 I), (Value.int .i64 J)])), (1, (bptr b 0))] O := B
 have L : Sep NoB w w [(rob b 141 [(Value.func (.func fid) fs cs)])] := f_0 ⟨rfl, hb, trivial⟩
 refine m2 ?_
 refine s2 B (f_3 L rfl (B.ev rfl) (cs := [(Value.int .i64 I), (Value.int .i64 J)]) rfl) ?_
 rintro S _ Z ⟨Y, rfl, C⟩ K; clear B L O
 refine s1 K (a_1 rfl (evc _ _)) fun T G => ?_; clear K S
 refine n4 ?_
 refine s1 G (a_3 rfl ty_141 (G.ev rfl) (C.rk 1 rfl) rfl) fun U H => ?_; clear G T
 refine s1 H (c_4 rfl z_2 (H.ev rfl) (C.bk 0 rfl) (l := [(Value.int .i64 I), (Value.int .i64 J)]) rfl rfl) fun P A => ?_; clear H U
 refine s2 A (i_5 rfl (A.ev rfl) hen (ev1 (A.ev rfl)) (hf _ C.ext)) ?_
 rintro Q _ X ⟨rfl, M⟩ D; have N := C.step M; clear A C P
 refine s1 D (f_4 rfl (D.ev rfl)) fun R E => ?_; clear D Q
 refine s1 E (a_1 rfl (E.ev rfl)) fun V F => ?_; clear E R
 refine n1 ?_
 refine c_8 ?_
 refine a_9 F (.inl rfl) (a_2 F rfl (.tmp rfl)) ?_
 exact ⟨rfl, N.ext⟩
theorem all_read (xs : List (Int × Int)) (v : Value) (fid : Nat) (fs cs : Array Value) (p : Nat → Bool) (w : World) (hv : SlAt w v 2 xs.length (pairs xs)) (hlen : xs.length ≤ 1000000) (hf : Asks Try.prog w fid fs cs xs.length (fun i => (Value.agg #[(Value.int .i64 ((xs.getD i (0, 0)).1)), (Value.int .i64 ((xs.getD i (0, 0)).2))])) p) :
  Calls Try.prog 84 #[v, (Value.func (.func fid) fs cs)] w (Ret fun v w' => v = .bool ((List.range xs.length).all p) ∧ Ext NoB w w') := by
 refine a_8 Try.func84 rfl fun M B => ?_
 replace B : Fr 9 [] [(0, v), (1, (Value.func (.func fid) fs cs))] M := B
 have K : Sep NoB w w [(sl v 2 xs.length (pairs xs))] := f_0 ⟨rfl, hv, trivial⟩
 refine m2 ?_
 refine s2 B (f_3 K rfl (B.ev rfl) (cs := [(Value.func (.func fid) fs cs)]) rfl) ?_
 rintro Q _ X ⟨T, rfl, C⟩ J; clear B K M
 refine s1 J (a_1 rfl (evc _ _)) fun R G => ?_; clear J Q
 refine n4 ?_
 refine s1 G (a_0 rfl (G.ev rfl)) fun S H => ?_; clear G R
 refine s1 H (i_0 rfl ev0 (ev1 (H.ev rfl))) fun N A => ?_; clear H S
 refine s2 A (a_6 rfl en_106 (ev2 (A.ev rfl) (A.ev rfl)) (contf_read xs _ 107 #[] #[(bptr T 0)] (fun i => !p i) _ (C.ok 1 _ rfl) hlen ⟨en_107, fun i hi W hW => clo_read _ _ _ _ _ _ (p i) W ((C.step hW).bk 0 rfl) hf.1 (fun W' hW' => hf.2 i hi W' (C.ext.trans (hW.trans hW')))⟩)) ?_
 rintro O _ V ⟨rfl, I⟩ D; have L := C.step I; clear I A C N
 refine s1 D (f_4 rfl (D.ev rfl)) fun P E => ?_; clear D O
 refine s1 E (a_1 rfl (E.ev rfl)) fun U F => ?_; clear E P
 refine n1 ?_
 refine c_8 ?_
 refine a_9 F (.inl rfl) (a_2 F rfl (.tmp rfl)) ?_
 exact ⟨congrArg Value.bool (any_not p xs.length), L.ext⟩
theorem indexf_int (xs : List Int) (v : Value) (fid : Nat) (fs cs : Array Value) (p : Nat → Bool) (w : World) (hv : SlAt w v 1 xs.length (ints xs)) (hlen : xs.length ≤ 1000000) (hf : Asks Try.prog w fid fs cs xs.length (fun i => (Value.int .i64 (xs.getD i 0))) p) :
  Calls Try.prog 115 #[v, (Value.func (.func fid) fs cs)] w (Ret fun v w' => v = .int .i64 (fidx p xs.length) ∧ Ext NoB w w') := by
 refine a_8 Try.func115 rfl fun g R => ?_
 replace R : Fr 19 [] [(0, v), (1, (Value.func (.func fid) fs cs))] g := R
 have W : Sep NoB w w [(sl v 1 xs.length (ints xs))] := f_0 ⟨rfl, hv, trivial⟩
 refine m2 ?_
 refine s1 R (a_1 rfl (evc _ _)) fun x S => ?_; clear R g
 refine n2 ?_
 refine m2 ?_
 refine s1 S (a_0 rfl (S.ev rfl)) fun y T => ?_; clear S x
 refine s1 T (c_0 rfl h_8 (T.ev rfl) (W.ok 0 _ rfl)) fun z b => ?_; clear T y
 refine s1 b (a_0 rfl (evc _ _)) fun a7 c => ?_; clear b z
 refine n1 ?_
 refine d_0 ?_
 have d := c.as [(8, (Value.int .i64 0)), (7, (Value.int .i64 (xs.length : Int))), (0, v), (1, (Value.func (.func fid) fs cs))] rfl; clear c
 refine h_3 (G := Nat) (fun (k : Nat) a_ w_ => Fr 19 [] [(8, (Value.int .i64 (k : Int))), (7, (Value.int .i64 (xs.length : Int))), (0, v), (1, (Value.func (.func fid) fs cs))] a_ ∧ Sep NoB w w_ [(sl v 1 xs.length (ints xs))] ∧ (k ≤ xs.length) ∧ (∀ i, i < k → p i = false)) (fun k => xs.length - k) 0 ⟨d.as _ rfl, W, by omega, by omega⟩ ?_
 clear d W a7
 rintro k j AE ⟨D, C, hk, hn⟩
 refine m2 ?_
 refine s1 D (f_9 rfl (D.ev rfl) (D.ev rfl)) fun Z A => ?_; clear D j
 refine n2 ?_
 by_cases Y : (k : Int) < (xs.length : Int)
 ·skip
  rw [decide_eq_true Y] at A
  refine c_6 A rfl ?_
  refine d_1 ?_
  refine b_0 ?_
  refine b_7 ?_
  refine d_0 ?_
  refine m2 ?_
  refine s1 A (a_0 rfl (A.ev rfl)) fun l H => ?_; clear A Z
  refine s1 H (a_1 rfl (H.ev rfl)) fun m I => ?_; clear H l
  refine n4 ?_
  refine s1 I (a_0 rfl (I.ev rfl)) fun n J => ?_; clear I m
  refine s1 J (a_0 rfl (J.ev rfl)) fun o K => ?_; clear J n
  refine s1 K (a_0 rfl (K.ev rfl)) fun q E => ?_; clear K o
  refine s1 E (b_2 rfl h_8 ty_3 (E.ev rfl) (i := k) (E.ev rfl) (C.ok 0 _ rfl) (by decide) (by omega)) fun r L => ?_; clear E q
  refine s1 L (c_7 rfl ty_3 (L.ev rfl) (C.ok 0 _ rfl) (ints_at (by omega))) fun s F => ?_; clear L r
  refine s2 F (i_5 rfl (F.ev rfl) hf.1 (ev1 (F.ev rfl)) (hf.2 k (by omega) _ C.ext)) ?_
  rintro a _ AF ⟨rfl, f⟩ B; have X := C.step f; clear F C s
  refine n1 ?_
  rcases Bool.eq_false_or_eq_true (p k) with Q | Q
  ·skip
   rw [Q] at B
   refine c_6 B rfl ?_
   refine b_7 ?_
   have M := B.as [(5, (Value.int .i64 (k : Int)))] rfl; clear B
   refine a_5 ?_
   refine s1 M (a_0 rfl (M.ev rfl)) fun t N => ?_; clear M a
   refine s1 N (a_1 rfl (N.ev rfl)) fun AB U => ?_; clear N t
   refine n1 ?_
   refine c_8 ?_
   refine d_3 ?_
   refine a_7 ?_
   refine a_7 ?_
   refine d_3 ?_
   refine a_7 ?_
   refine a_9 U (.inl rfl) (a_2 U rfl (.tmp rfl)) ?_
   exact ⟨by first | rw [k_7 (by omega) hn (by assumption)] | rw [j_2 (fun i hi => hn i (by omega))], X.ext⟩
  skip
  rw [Q] at B
  refine b_5 B rfl ?_
  refine d_1 ?_
  refine g_8 ?_
  refine b_0 ?_
  have O := B.as [(8, (Value.int .i64 (k : Int))), (7, (Value.int .i64 (xs.length : Int))), (0, v), (1, (Value.func (.func fid) fs cs))] rfl; clear B
  refine a_5 ?_
  refine s1 O (f_6 rfl (O.ev rfl) (evc _ _) (by omega) (by omega)) fun u P => ?_; clear O a
  refine s1 P (a_0 rfl (P.ev rfl)) fun AC e => ?_; clear P u
  refine e_8 ?_
  exact b_0 ⟨k + 1, ⟨e.as _ rfl, X, by omega, (fun i hi => by rcases Nat.lt_succ_iff_lt_or_eq.1 hi with h | h; exact hn i h; subst h; assumption)⟩, by omega⟩
 skip
 rw [decide_eq_false Y] at A
 refine b_5 A rfl ?_
 refine h_1 ?_
 refine b_4 ?_
 refine b_4 ?_
 refine f_7 ?_
 refine b_0 ?_
 refine m2 ?_
 refine s1 A (a_1 rfl (evc _ _)) fun AD V => ?_; clear A Z
 refine n1 ?_
 refine c_8 ?_
 refine a_9 V (.inl rfl) (a_2 V rfl (.tmp rfl)) ?_
 exact ⟨by first | rw [k_7 (by omega) hn (by assumption)] | rw [j_2 (fun i hi => hn i (by omega))], C.ext⟩
theorem contf_int (xs : List Int) (v : Value) (fid : Nat) (fs cs : Array Value) (p : Nat → Bool) (w : World) (hv : SlAt w v 1 xs.length (ints xs)) (hlen : xs.length ≤ 1000000) (hf : Asks Try.prog w fid fs cs xs.length (fun i => (Value.int .i64 (xs.getD i 0))) p) :
  Calls Try.prog 99 #[v, (Value.func (.func fid) fs cs)] w (Ret fun v w' => v = .bool ((List.range xs.length).any p) ∧ Ext NoB w w') := by
 refine a_8 Try.func99 rfl fun K B => ?_
 replace B : Fr 9 [] [(0, v), (1, (Value.func (.func fid) fs cs))] K := B
 have D : Sep NoB w w [(sl v 1 xs.length (ints xs))] := f_0 ⟨rfl, hv, trivial⟩
 refine m2 ?_
 refine s1 B (a_1 rfl (evc _ _)) fun M F => ?_; clear B K
 refine n4 ?_
 refine s1 F (a_0 rfl (F.ev rfl)) fun N G => ?_; clear F M
 refine s1 G (a_0 rfl (G.ev rfl)) fun O C => ?_; clear G N
 refine s2 C (a_6 rfl en_115 (ev2 (C.ev rfl) (C.ev rfl)) (indexf_int xs _ _ _ _ p _ (D.ok 0 _ rfl) hlen (hf.step D.ext))) ?_
 rintro P _ R ⟨rfl, I⟩ H; have J := D.step I; clear I C D O
 refine s1 H (w_7 rfl (H.ev rfl) (evc _ _)) fun L A => ?_; clear H P
 refine s1 A (a_1 rfl (A.ev rfl)) fun Q E => ?_; clear A L
 refine n1 ?_
 refine c_8 ?_
 refine a_9 E (.inl rfl) (a_2 E rfl (.tmp rfl)) ?_
 exact ⟨congrArg Value.bool (s_4 p xs.length), J.ext⟩
theorem clo_int (x : Int) (b fid : Nat) (fs cs : Array Value) (q : Bool) (w : World) (hb : (blk b 112 [.func (.func fid) fs cs]).p w) (hen : ∀ args W, (callFunc fid args).run Try.prog W = .ok (.enter fid args) W) (hf : ∀ W, Ext NoB w W → Calls Try.prog fid (fs ++ #[(Value.int .i64 x)] ++ cs) W (Ret fun v w' => v = .bool q ∧ Ext NoB W w')) :
  Calls Try.prog 100 #[(Value.int .i64 x), (bptr b 0)] w (Ret fun v w' => v = .bool (!q) ∧ Ext NoB w w') := by
 refine a_8 Try.func100 rfl fun K B => ?_
 replace B : Fr 8 [] [(0, (Value.int .i64 x)), (1, (bptr b 0))] K := B
 have D : Sep NoB w w [(rob b 112 [(Value.func (.func fid) fs cs)])] := f_0 ⟨rfl, hb, trivial⟩
 refine m2 ?_
 refine s1 B (a_1 rfl (evc _ _)) fun M F => ?_; clear B K
 refine n4 ?_
 refine s1 F (a_3 rfl ty_112 (F.ev rfl) (D.rk 0 rfl) rfl) fun N G => ?_; clear F M
 refine s1 G (a_0 rfl (G.ev rfl)) fun O C => ?_; clear G N
 refine s2 C (i_5 rfl (C.ev rfl) hen (ev1 (C.ev rfl)) (hf _ D.ext)) ?_
 rintro P _ R ⟨rfl, I⟩ H; have J := D.step I; clear C D O
 refine s1 H (f_4 rfl (H.ev rfl)) fun L A => ?_; clear H P
 refine s1 A (a_1 rfl (A.ev rfl)) fun Q E => ?_; clear A L
 refine n1 ?_
 refine c_8 ?_
 refine a_9 E (.inl rfl) (a_2 E rfl (.tmp rfl)) ?_
 exact ⟨rfl, J.ext⟩
theorem all_int (xs : List Int) (v : Value) (fid : Nat) (fs cs : Array Value) (p : Nat → Bool) (w : World) (hv : SlAt w v 1 xs.length (ints xs)) (hlen : xs.length ≤ 1000000) (hf : Asks Try.prog w fid fs cs xs.length (fun i => (Value.int .i64 (xs.getD i 0))) p) :
  Calls Try.prog 69 #[v, (Value.func (.func fid) fs cs)] w (Ret fun v w' => v = .bool ((List.range xs.length).all p) ∧ Ext NoB w w') := by
 refine a_8 Try.func69 rfl fun M B => ?_
 replace B : Fr 9 [] [(0, v), (1, (Value.func (.func fid) fs cs))] M := B
 have K : Sep NoB w w [(sl v 1 xs.length (ints xs))] := f_0 ⟨rfl, hv, trivial⟩
 refine m2 ?_
 refine s2 B (f_3 K rfl (B.ev rfl) (cs := [(Value.func (.func fid) fs cs)]) rfl) ?_
 rintro Q _ X ⟨T, rfl, C⟩ J; clear B K M
 refine s1 J (a_1 rfl (evc _ _)) fun R G => ?_; clear J Q
 refine n4 ?_
 refine s1 G (a_0 rfl (G.ev rfl)) fun S H => ?_; clear G R
 refine s1 H (i_0 rfl ev0 (ev1 (H.ev rfl))) fun N A => ?_; clear H S
 refine s2 A (a_6 rfl en_99 (ev2 (A.ev rfl) (A.ev rfl)) (contf_int xs _ 100 #[] #[(bptr T 0)] (fun i => !p i) _ (C.ok 1 _ rfl) hlen ⟨en_100, fun i hi W hW => clo_int _ _ _ _ _ (p i) W ((C.step hW).bk 0 rfl) hf.1 (fun W' hW' => hf.2 i hi W' (C.ext.trans (hW.trans hW')))⟩)) ?_
 rintro O _ V ⟨rfl, I⟩ D; have L := C.step I; clear I A C N
 refine s1 D (f_4 rfl (D.ev rfl)) fun P E => ?_; clear D O
 refine s1 E (a_1 rfl (E.ev rfl)) fun U F => ?_; clear E P
 refine n1 ?_
 refine c_8 ?_
 refine a_9 F (.inl rfl) (a_2 F rfl (.tmp rfl)) ?_
 exact ⟨congrArg Value.bool (any_not p xs.length), L.ext⟩
theorem indexf_rng (xs : List (Int × Int)) (v : Value) (fid : Nat) (fs cs : Array Value) (p : Nat → Bool) (w : World) (hv : SlAt w v 2 xs.length (pairs xs)) (hlen : xs.length ≤ 1000000) (hf : Asks Try.prog w fid fs cs xs.length (fun i => (Value.agg #[(Value.int .i64 ((xs.getD i (0, 0)).1)), (Value.int .i64 ((xs.getD i (0, 0)).2))])) p) :
  Calls Try.prog 118 #[v, (Value.func (.func fid) fs cs)] w (Ret fun v w' => v = .int .i64 (fidx p xs.length) ∧ Ext NoB w w') := by
 refine a_8 Try.func118 rfl fun g R => ?_
 replace R : Fr 19 [] [(0, v), (1, (Value.func (.func fid) fs cs))] g := R
 have W : Sep NoB w w [(sl v 2 xs.length (pairs xs))] := f_0 ⟨rfl, hv, trivial⟩
 refine m2 ?_
 refine s1 R (a_1 rfl (evc _ _)) fun x S => ?_; clear R g
 refine n2 ?_
 refine m2 ?_
 refine s1 S (a_0 rfl (S.ev rfl)) fun y T => ?_; clear S x
 refine s1 T (c_0 rfl un_50 (T.ev rfl) (W.ok 0 _ rfl)) fun z b => ?_; clear T y
 refine s1 b (a_0 rfl (evc _ _)) fun a7 c => ?_; clear b z
 refine n1 ?_
 refine d_0 ?_
 have d := c.as [(8, (Value.int .i64 0)), (7, (Value.int .i64 (xs.length : Int))), (0, v), (1, (Value.func (.func fid) fs cs))] rfl; clear c
 refine h_3 (G := Nat) (fun (k : Nat) a_ w_ => Fr 19 [] [(8, (Value.int .i64 (k : Int))), (7, (Value.int .i64 (xs.length : Int))), (0, v), (1, (Value.func (.func fid) fs cs))] a_ ∧ Sep NoB w w_ [(sl v 2 xs.length (pairs xs))] ∧ (k ≤ xs.length) ∧ (∀ i, i < k → p i = false)) (fun k => xs.length - k) 0 ⟨d.as _ rfl, W, by omega, by omega⟩ ?_
 clear d W a7
 rintro k j AE ⟨D, C, hk, hn⟩
 refine m2 ?_
 refine s1 D (f_9 rfl (D.ev rfl) (D.ev rfl)) fun Z A => ?_; clear D j
 refine n2 ?_
 by_cases Y : (k : Int) < (xs.length : Int)
 ·skip
  rw [decide_eq_true Y] at A
  refine c_6 A rfl ?_
  refine d_1 ?_
  refine b_0 ?_
  refine b_7 ?_
  refine d_0 ?_
  refine m2 ?_
  refine s1 A (a_0 rfl (A.ev rfl)) fun l H => ?_; clear A Z
  refine s1 H (a_1 rfl (H.ev rfl)) fun m I => ?_; clear H l
  refine n4 ?_
  refine s1 I (a_0 rfl (I.ev rfl)) fun n J => ?_; clear I m
  refine s1 J (a_0 rfl (J.ev rfl)) fun o K => ?_; clear J n
  refine s1 K (a_0 rfl (K.ev rfl)) fun q E => ?_; clear K o
  refine s1 E (b_2 rfl un_50 g_5 (E.ev rfl) (i := k) (E.ev rfl) (C.ok 0 _ rfl) (by decide) (by omega)) fun r L => ?_; clear E q
  refine s1 L (f_2 rfl g_5 (L.ev rfl) (C.ok 0 _ rfl) (i_3 (by omega)) rfl (by decide)) fun s F => ?_; clear L r
  refine s2 F (i_5 rfl (F.ev rfl) hf.1 (ev1 (F.ev rfl)) (hf.2 k (by omega) _ C.ext)) ?_
  rintro a _ AF ⟨rfl, f⟩ B; have X := C.step f; clear F C s
  refine n1 ?_
  rcases Bool.eq_false_or_eq_true (p k) with Q | Q
  ·skip
   rw [Q] at B
   refine c_6 B rfl ?_
   refine b_7 ?_
   have M := B.as [(5, (Value.int .i64 (k : Int)))] rfl; clear B
   refine a_5 ?_
   refine s1 M (a_0 rfl (M.ev rfl)) fun t N => ?_; clear M a
   refine s1 N (a_1 rfl (N.ev rfl)) fun AB U => ?_; clear N t
   refine n1 ?_
   refine c_8 ?_
   refine d_3 ?_
   refine a_7 ?_
   refine a_7 ?_
   refine d_3 ?_
   refine a_7 ?_
   refine a_9 U (.inl rfl) (a_2 U rfl (.tmp rfl)) ?_
   exact ⟨by first | rw [k_7 (by omega) hn (by assumption)] | rw [j_2 (fun i hi => hn i (by omega))], X.ext⟩
  skip
  rw [Q] at B
  refine b_5 B rfl ?_
  refine d_1 ?_
  refine g_8 ?_
  refine b_0 ?_
  have O := B.as [(8, (Value.int .i64 (k : Int))), (7, (Value.int .i64 (xs.length : Int))), (0, v), (1, (Value.func (.func fid) fs cs))] rfl; clear B
  refine a_5 ?_
  refine s1 O (f_6 rfl (O.ev rfl) (evc _ _) (by omega) (by omega)) fun u P => ?_; clear O a
  refine s1 P (a_0 rfl (P.ev rfl)) fun AC e => ?_; clear P u
  refine e_8 ?_
  exact b_0 ⟨k + 1, ⟨e.as _ rfl, X, by omega, (fun i hi => by rcases Nat.lt_succ_iff_lt_or_eq.1 hi with h | h; exact hn i h; subst h; assumption)⟩, by omega⟩
 skip
 rw [decide_eq_false Y] at A
 refine b_5 A rfl ?_
 refine h_1 ?_
 refine b_4 ?_
 refine b_4 ?_
 refine f_7 ?_
 refine b_0 ?_
 refine m2 ?_
 refine s1 A (a_1 rfl (evc _ _)) fun AD V => ?_; clear A Z
 refine n1 ?_
 refine c_8 ?_
 refine a_9 V (.inl rfl) (a_2 V rfl (.tmp rfl)) ?_
 exact ⟨by first | rw [k_7 (by omega) hn (by assumption)] | rw [j_2 (fun i hi => hn i (by omega))], C.ext⟩
theorem contf_rng (xs : List (Int × Int)) (v : Value) (fid : Nat) (fs cs : Array Value) (p : Nat → Bool) (w : World) (hv : SlAt w v 2 xs.length (pairs xs)) (hlen : xs.length ≤ 1000000) (hf : Asks Try.prog w fid fs cs xs.length (fun i => (Value.agg #[(Value.int .i64 ((xs.getD i (0, 0)).1)), (Value.int .i64 ((xs.getD i (0, 0)).2))])) p) :
  Calls Try.prog 108 #[v, (Value.func (.func fid) fs cs)] w (Ret fun v w' => v = .bool ((List.range xs.length).any p) ∧ Ext NoB w w') := by
 refine a_8 Try.func108 rfl fun K B => ?_
 replace B : Fr 9 [] [(0, v), (1, (Value.func (.func fid) fs cs))] K := B
 have D : Sep NoB w w [(sl v 2 xs.length (pairs xs))] := f_0 ⟨rfl, hv, trivial⟩
 refine m2 ?_
 refine s1 B (a_1 rfl (evc _ _)) fun M F => ?_; clear B K
 refine n4 ?_
 refine s1 F (a_0 rfl (F.ev rfl)) fun N G => ?_; clear F M
 refine s1 G (a_0 rfl (G.ev rfl)) fun O C => ?_; clear G N
 refine s2 C (a_6 rfl en_118 (ev2 (C.ev rfl) (C.ev rfl)) (indexf_rng xs _ _ _ _ p _ (D.ok 0 _ rfl) hlen (hf.step D.ext))) ?_
 rintro P _ R ⟨rfl, I⟩ H; have J := D.step I; clear I C D O
 refine s1 H (w_7 rfl (H.ev rfl) (evc _ _)) fun L A => ?_; clear H P
 refine s1 A (a_1 rfl (A.ev rfl)) fun Q E => ?_; clear A L
 refine n1 ?_
 refine c_8 ?_
 refine a_9 E (.inl rfl) (a_2 E rfl (.tmp rfl)) ?_
 exact ⟨congrArg Value.bool (s_4 p xs.length), J.ext⟩
theorem indexf_tab (xs : List TabD) (lr lb : Nat → Value) (v : Value) (fid : Nat) (fs cs : Array Value) (p : Nat → Bool) (w : World) (hv : SlAt w v 5 xs.length (n_6 lr lb xs)) (hlen : xs.length ≤ 1000000) (hf : Asks Try.prog w fid fs cs xs.length (fun i => (Value.agg #[(Value.int .i64 ((xs.getD i tab0).frm)), (Value.int .i64 ((xs.getD i tab0).dst)), (lr i), (lb i), (Value.int .i64 ((xs.getD i tab0).err))])) p) :
  Calls Try.prog 109 #[v, (Value.func (.func fid) fs cs)] w (Ret fun v w' => v = .int .i64 (fidx p xs.length) ∧ Ext NoB w w') := by
 refine a_8 Try.func109 rfl fun g R => ?_
 replace R : Fr 19 [] [(0, v), (1, (Value.func (.func fid) fs cs))] g := R
 have W : Sep NoB w w [(sl v 5 xs.length (n_6 lr lb xs))] := f_0 ⟨rfl, hv, trivial⟩
 refine m2 ?_
 refine s1 R (a_1 rfl (evc _ _)) fun x S => ?_; clear R g
 refine n2 ?_
 refine m2 ?_
 refine s1 S (a_0 rfl (S.ev rfl)) fun y T => ?_; clear S x
 refine s1 T (c_0 rfl aa_9 (T.ev rfl) (W.ok 0 _ rfl)) fun z b => ?_; clear T y
 refine s1 b (a_0 rfl (evc _ _)) fun a7 c => ?_; clear b z
 refine n1 ?_
 refine d_0 ?_
 have d := c.as [(8, (Value.int .i64 0)), (7, (Value.int .i64 (xs.length : Int))), (0, v), (1, (Value.func (.func fid) fs cs))] rfl; clear c
 refine h_3 (G := Nat) (fun (k : Nat) a_ w_ => Fr 19 [] [(8, (Value.int .i64 (k : Int))), (7, (Value.int .i64 (xs.length : Int))), (0, v), (1, (Value.func (.func fid) fs cs))] a_ ∧ Sep NoB w w_ [(sl v 5 xs.length (n_6 lr lb xs))] ∧ (k ≤ xs.length) ∧ (∀ i, i < k → p i = false)) (fun k => xs.length - k) 0 ⟨d.as _ rfl, W, by omega, by omega⟩ ?_
 clear d W a7
 rintro k j AE ⟨D, C, hk, hn⟩
 refine m2 ?_
 refine s1 D (f_9 rfl (D.ev rfl) (D.ev rfl)) fun Z A => ?_; clear D j
 refine n2 ?_
 by_cases Y : (k : Int) < (xs.length : Int)
 ·skip
  rw [decide_eq_true Y] at A
  refine c_6 A rfl ?_
  refine d_1 ?_
  refine b_0 ?_
  refine b_7 ?_
  refine d_0 ?_
  refine m2 ?_
  refine s1 A (a_0 rfl (A.ev rfl)) fun l H => ?_; clear A Z
  refine s1 H (a_1 rfl (H.ev rfl)) fun m I => ?_; clear H l
  refine n4 ?_
  refine s1 I (a_0 rfl (I.ev rfl)) fun n J => ?_; clear I m
  refine s1 J (a_0 rfl (J.ev rfl)) fun o K => ?_; clear J n
  refine s1 K (a_0 rfl (K.ev rfl)) fun q E => ?_; clear K o
  refine s1 E (b_2 rfl aa_9 l_7 (E.ev rfl) (i := k) (E.ev rfl) (C.ok 0 _ rfl) (by decide) (by omega)) fun r L => ?_; clear E q
  refine s1 L (f_2 rfl l_7 (L.ev rfl) (C.ok 0 _ rfl) (y_3 (by omega)) rfl (by decide)) fun s F => ?_; clear L r
  refine s2 F (i_5 rfl (F.ev rfl) hf.1 (ev1 (F.ev rfl)) (hf.2 k (by omega) _ C.ext)) ?_
  rintro a _ AF ⟨rfl, f⟩ B; have X := C.step f; clear F C s
  refine n1 ?_
  rcases Bool.eq_false_or_eq_true (p k) with Q | Q
  ·skip
   rw [Q] at B
   refine c_6 B rfl ?_
   refine b_7 ?_
   have M := B.as [(5, (Value.int .i64 (k : Int)))] rfl; clear B
   refine a_5 ?_
   refine s1 M (a_0 rfl (M.ev rfl)) fun t N => ?_; clear M a
   refine s1 N (a_1 rfl (N.ev rfl)) fun AB U => ?_; clear N t
   refine n1 ?_
   refine c_8 ?_
   refine d_3 ?_
   refine a_7 ?_
   refine a_7 ?_
   refine d_3 ?_
   refine a_7 ?_
   refine a_9 U (.inl rfl) (a_2 U rfl (.tmp rfl)) ?_
   exact ⟨by first | rw [k_7 (by omega) hn (by assumption)] | rw [j_2 (fun i hi => hn i (by omega))], X.ext⟩
  skip
  rw [Q] at B
  refine b_5 B rfl ?_
  refine d_1 ?_
  refine g_8 ?_
  refine b_0 ?_
  have O := B.as [(8, (Value.int .i64 (k : Int))), (7, (Value.int .i64 (xs.length : Int))), (0, v), (1, (Value.func (.func fid) fs cs))] rfl; clear B
  refine a_5 ?_
  refine s1 O (f_6 rfl (O.ev rfl) (evc _ _) (by omega) (by omega)) fun u P => ?_; clear O a
  refine s1 P (a_0 rfl (P.ev rfl)) fun AC e => ?_; clear P u
  refine e_8 ?_
  exact b_0 ⟨k + 1, ⟨e.as _ rfl, X, by omega, (fun i hi => by rcases Nat.lt_succ_iff_lt_or_eq.1 hi with h | h; exact hn i h; subst h; assumption)⟩, by omega⟩
 skip
 rw [decide_eq_false Y] at A
 refine b_5 A rfl ?_
 refine h_1 ?_
 refine b_4 ?_
 refine b_4 ?_
 refine f_7 ?_
 refine b_0 ?_
 refine m2 ?_
 refine s1 A (a_1 rfl (evc _ _)) fun AD V => ?_; clear A Z
 refine n1 ?_
 refine c_8 ?_
 refine a_9 V (.inl rfl) (a_2 V rfl (.tmp rfl)) ?_
 exact ⟨by first | rw [k_7 (by omega) hn (by assumption)] | rw [j_2 (fun i hi => hn i (by omega))], C.ext⟩
theorem contf_tab (xs : List TabD) (lr lb : Nat → Value) (v : Value) (fid : Nat) (fs cs : Array Value) (p : Nat → Bool) (w : World) (hv : SlAt w v 5 xs.length (n_6 lr lb xs)) (hlen : xs.length ≤ 1000000) (hf : Asks Try.prog w fid fs cs xs.length (fun i => (Value.agg #[(Value.int .i64 ((xs.getD i tab0).frm)), (Value.int .i64 ((xs.getD i tab0).dst)), (lr i), (lb i), (Value.int .i64 ((xs.getD i tab0).err))])) p) :
  Calls Try.prog 89 #[v, (Value.func (.func fid) fs cs)] w (Ret fun v w' => v = .bool ((List.range xs.length).any p) ∧ Ext NoB w w') := by
 refine a_8 Try.func89 rfl fun K B => ?_
 replace B : Fr 9 [] [(0, v), (1, (Value.func (.func fid) fs cs))] K := B
 have D : Sep NoB w w [(sl v 5 xs.length (n_6 lr lb xs))] := f_0 ⟨rfl, hv, trivial⟩
 refine m2 ?_
 refine s1 B (a_1 rfl (evc _ _)) fun M F => ?_; clear B K
 refine n4 ?_
 refine s1 F (a_0 rfl (F.ev rfl)) fun N G => ?_; clear F M
 refine s1 G (a_0 rfl (G.ev rfl)) fun O C => ?_; clear G N
 refine s2 C (a_6 rfl en_109 (ev2 (C.ev rfl) (C.ev rfl)) (indexf_tab xs lr lb _ _ _ _ p _ (D.ok 0 _ rfl) hlen (hf.step D.ext))) ?_
 rintro P _ R ⟨rfl, I⟩ H; have J := D.step I; clear I C D O
 refine s1 H (w_7 rfl (H.ev rfl) (evc _ _)) fun L A => ?_; clear H P
 refine s1 A (a_1 rfl (A.ev rfl)) fun Q E => ?_; clear A L
 refine n1 ?_
 refine c_8 ?_
 refine a_9 E (.inl rfl) (a_2 E rfl (.tmp rfl)) ?_
 exact ⟨congrArg Value.bool (s_4 p xs.length), J.ext⟩
theorem clo_tab (K L : Int) (F G : Value) (a : F.oneCell' = true) (c : G.oneCell' = true) (M : Int) (b fid : Nat) (fs cs : Array Value) (q : Bool) (w : World) (hb : (blk b 127 [.func (.func fid) fs cs]).p w) (hen : ∀ args W, (callFunc fid args).run Try.prog W = .ok (.enter fid args) W) (hf : ∀ W, Ext NoB w W → Calls Try.prog fid (fs ++ #[(Value.agg #[(Value.int .i64 K), (Value.int .i64 L), F, G, (Value.int .i64 M)])] ++ cs) W (Ret fun v w' => v = .bool q ∧ Ext NoB W w')) :
  Calls Try.prog 90 #[(Value.agg #[(Value.int .i64 K), (Value.int .i64 L), F, G, (Value.int .i64 M)]), (bptr b 0)] w (Ret fun v w' => v = .bool (!q) ∧ Ext NoB w w') := by
 refine a_8 Try.func90 rfl fun R B => ?_
 replace B : Fr 8 [] [(0, (Value.agg #[(Value.int .i64 K), (Value.int .i64 L), F, G, (Value.int .i64 M)])), (1, (bptr b 0))] R := B
 have O : Sep NoB w w [(rob b 127 [(Value.func (.func fid) fs cs)])] := f_0 ⟨rfl, hb, trivial⟩
 refine m2 ?_
 refine s2 B (f_3 O rfl (B.ev rfl) (cs := [(Value.int .i64 K), (Value.int .i64 L), F, G, (Value.int .i64 M)]) rfl) ?_
 rintro V _ f ⟨e, rfl, C⟩ N; clear B O R
 refine s1 N (a_1 rfl (evc _ _)) fun X I => ?_; clear N V
 refine n4 ?_
 refine s1 I (a_3 rfl ty_127 (I.ev rfl) (C.rk 1 rfl) rfl) fun Y J => ?_; clear I X
 refine s1 J (c_4 rfl l_7 (J.ev rfl) (C.bk 0 rfl) (l := [(Value.int .i64 K), (Value.int .i64 L), F, G, (Value.int .i64 M)]) rfl rfl) fun S A => ?_; clear J Y
 refine s2 A (i_5 rfl (A.ev rfl) hen (ev1 (A.ev rfl)) (hf _ C.ext)) ?_
 rintro T _ d ⟨rfl, P⟩ D; have Q := C.step P; clear A C S
 refine s1 D (f_4 rfl (D.ev rfl)) fun U E => ?_; clear D T
 refine s1 E (a_1 rfl (E.ev rfl)) fun Z H => ?_; clear E U
 refine n1 ?_
 refine c_8 ?_
 refine a_9 H (.inl rfl) (a_2 H rfl (.tmp rfl)) ?_
 exact ⟨rfl, Q.ext⟩
theorem all_tab (xs : List TabD) (lr lb : Nat → Value) (v : Value) (fid : Nat) (fs cs : Array Value) (p : Nat → Bool) (w : World) (hv : SlAt w v 5 xs.length (n_6 lr lb xs)) (hlen : xs.length ≤ 1000000) (hf : Asks Try.prog w fid fs cs xs.length (fun i => (Value.agg #[(Value.int .i64 ((xs.getD i tab0).frm)), (Value.int .i64 ((xs.getD i tab0).dst)), (lr i), (lb i), (Value.int .i64 ((xs.getD i tab0).err))])) p) (hone : ∀ i, i < xs.length → (lr i).oneCell' = true ∧ (lb i).oneCell' = true) :
  Calls Try.prog 61 #[v, (Value.func (.func fid) fs cs)] w (Ret fun v w' => v = .bool ((List.range xs.length).all p) ∧ Ext NoB w w') := by
 refine a_8 Try.func61 rfl fun M B => ?_
 replace B : Fr 9 [] [(0, v), (1, (Value.func (.func fid) fs cs))] M := B
 have K : Sep NoB w w [(sl v 5 xs.length (n_6 lr lb xs))] := f_0 ⟨rfl, hv, trivial⟩
 refine m2 ?_
 refine s2 B (f_3 K rfl (B.ev rfl) (cs := [(Value.func (.func fid) fs cs)]) rfl) ?_
 rintro Q _ X ⟨T, rfl, C⟩ J; clear B K M
 refine s1 J (a_1 rfl (evc _ _)) fun R G => ?_; clear J Q
 refine n4 ?_
 refine s1 G (a_0 rfl (G.ev rfl)) fun S H => ?_; clear G R
 refine s1 H (i_0 rfl ev0 (ev1 (H.ev rfl))) fun N A => ?_; clear H S
 refine s2 A (a_6 rfl en_89 (ev2 (A.ev rfl) (A.ev rfl)) (contf_tab xs lr lb _ 90 #[] #[(bptr T 0)] (fun i => !p i) _ (C.ok 1 _ rfl) hlen ⟨en_90, fun i hi W hW => clo_tab _ _ _ _ (hone i hi).1 (hone i hi).2 _ _ _ _ _ (p i) W ((C.step hW).bk 0 rfl) hf.1 (fun W' hW' => hf.2 i hi W' (C.ext.trans (hW.trans hW')))⟩)) ?_
 rintro O _ V ⟨rfl, I⟩ D; have L := C.step I; clear I A C N
 refine s1 D (f_4 rfl (D.ev rfl)) fun P E => ?_; clear D O
 refine s1 E (a_1 rfl (E.ev rfl)) fun U F => ?_; clear E P
 refine n1 ?_
 refine c_8 ?_
 refine a_9 F (.inl rfl) (a_2 F rfl (.tmp rfl)) ?_
 exact ⟨congrArg Value.bool (any_not p xs.length), L.ext⟩
theorem indexf_mac (xs : List MacD) (lk : Nat → Value) (v : Value) (fid : Nat) (fs cs : Array Value) (p : Nat → Bool) (w : World) (hv : SlAt w v 2 xs.length (o_7 lk xs)) (hlen : xs.length ≤ 1000000) (hf : Asks Try.prog w fid fs cs xs.length (fun i => (Value.agg #[(Value.int .i64 ((xs.getD i mac0).scale)), (lk i)])) p) :
  Calls Try.prog 110 #[v, (Value.func (.func fid) fs cs)] w (Ret fun v w' => v = .int .i64 (fidx p xs.length) ∧ Ext NoB w w') := by
 refine a_8 Try.func110 rfl fun g R => ?_
 replace R : Fr 19 [] [(0, v), (1, (Value.func (.func fid) fs cs))] g := R
 have W : Sep NoB w w [(sl v 2 xs.length (o_7 lk xs))] := f_0 ⟨rfl, hv, trivial⟩
 refine m2 ?_
 refine s1 R (a_1 rfl (evc _ _)) fun x S => ?_; clear R g
 refine n2 ?_
 refine m2 ?_
 refine s1 S (a_0 rfl (S.ev rfl)) fun y T => ?_; clear S x
 refine s1 T (c_0 rfl ac_8 (T.ev rfl) (W.ok 0 _ rfl)) fun z b => ?_; clear T y
 refine s1 b (a_0 rfl (evc _ _)) fun a7 c => ?_; clear b z
 refine n1 ?_
 refine d_0 ?_
 have d := c.as [(8, (Value.int .i64 0)), (7, (Value.int .i64 (xs.length : Int))), (0, v), (1, (Value.func (.func fid) fs cs))] rfl; clear c
 refine h_3 (G := Nat) (fun (k : Nat) a_ w_ => Fr 19 [] [(8, (Value.int .i64 (k : Int))), (7, (Value.int .i64 (xs.length : Int))), (0, v), (1, (Value.func (.func fid) fs cs))] a_ ∧ Sep NoB w w_ [(sl v 2 xs.length (o_7 lk xs))] ∧ (k ≤ xs.length) ∧ (∀ i, i < k → p i = false)) (fun k => xs.length - k) 0 ⟨d.as _ rfl, W, by omega, by omega⟩ ?_
 clear d W a7
 rintro k j AE ⟨D, C, hk, hn⟩
 refine m2 ?_
 refine s1 D (f_9 rfl (D.ev rfl) (D.ev rfl)) fun Z A => ?_; clear D j
 refine n2 ?_
 by_cases Y : (k : Int) < (xs.length : Int)
 ·skip
  rw [decide_eq_true Y] at A
  refine c_6 A rfl ?_
  refine d_1 ?_
  refine b_0 ?_
  refine b_7 ?_
  refine d_0 ?_
  refine m2 ?_
  refine s1 A (a_0 rfl (A.ev rfl)) fun l H => ?_; clear A Z
  refine s1 H (a_1 rfl (H.ev rfl)) fun m I => ?_; clear H l
  refine n4 ?_
  refine s1 I (a_0 rfl (I.ev rfl)) fun n J => ?_; clear I m
  refine s1 J (a_0 rfl (J.ev rfl)) fun o K => ?_; clear J n
  refine s1 K (a_0 rfl (K.ev rfl)) fun q E => ?_; clear K o
  refine s1 E (b_2 rfl ac_8 u_7 (E.ev rfl) (i := k) (E.ev rfl) (C.ok 0 _ rfl) (by decide) (by omega)) fun r L => ?_; clear E q
  refine s1 L (f_2 rfl u_7 (L.ev rfl) (C.ok 0 _ rfl) (x_7 (by omega)) rfl (by decide)) fun s F => ?_; clear L r
  refine s2 F (i_5 rfl (F.ev rfl) hf.1 (ev1 (F.ev rfl)) (hf.2 k (by omega) _ C.ext)) ?_
  rintro a _ AF ⟨rfl, f⟩ B; have X := C.step f; clear F C s
  refine n1 ?_
  rcases Bool.eq_false_or_eq_true (p k) with Q | Q
  ·skip
   rw [Q] at B
   refine c_6 B rfl ?_
   refine b_7 ?_
   have M := B.as [(5, (Value.int .i64 (k : Int)))] rfl; clear B
   refine a_5 ?_
   refine s1 M (a_0 rfl (M.ev rfl)) fun t N => ?_; clear M a
   refine s1 N (a_1 rfl (N.ev rfl)) fun AB U => ?_; clear N t
   refine n1 ?_
   refine c_8 ?_
   refine d_3 ?_
   refine a_7 ?_
   refine a_7 ?_
   refine d_3 ?_
   refine a_7 ?_
   refine a_9 U (.inl rfl) (a_2 U rfl (.tmp rfl)) ?_
   exact ⟨by first | rw [k_7 (by omega) hn (by assumption)] | rw [j_2 (fun i hi => hn i (by omega))], X.ext⟩
  skip
  rw [Q] at B
  refine b_5 B rfl ?_
  refine d_1 ?_
  refine g_8 ?_
  refine b_0 ?_
  have O := B.as [(8, (Value.int .i64 (k : Int))), (7, (Value.int .i64 (xs.length : Int))), (0, v), (1, (Value.func (.func fid) fs cs))] rfl; clear B
  refine a_5 ?_
  refine s1 O (f_6 rfl (O.ev rfl) (evc _ _) (by omega) (by omega)) fun u P => ?_; clear O a
  refine s1 P (a_0 rfl (P.ev rfl)) fun AC e => ?_; clear P u
  refine e_8 ?_
  exact b_0 ⟨k + 1, ⟨e.as _ rfl, X, by omega, (fun i hi => by rcases Nat.lt_succ_iff_lt_or_eq.1 hi with h | h; exact hn i h; subst h; assumption)⟩, by omega⟩
 skip
 rw [decide_eq_false Y] at A
 refine b_5 A rfl ?_
 refine h_1 ?_
 refine b_4 ?_
 refine b_4 ?_
 refine f_7 ?_
 refine b_0 ?_
 refine m2 ?_
 refine s1 A (a_1 rfl (evc _ _)) fun AD V => ?_; clear A Z
 refine n1 ?_
 refine c_8 ?_
 refine a_9 V (.inl rfl) (a_2 V rfl (.tmp rfl)) ?_
 exact ⟨by first | rw [k_7 (by omega) hn (by assumption)] | rw [j_2 (fun i hi => hn i (by omega))], C.ext⟩
theorem contf_mac (xs : List MacD) (lk : Nat → Value) (v : Value) (fid : Nat) (fs cs : Array Value) (p : Nat → Bool) (w : World) (hv : SlAt w v 2 xs.length (o_7 lk xs)) (hlen : xs.length ≤ 1000000) (hf : Asks Try.prog w fid fs cs xs.length (fun i => (Value.agg #[(Value.int .i64 ((xs.getD i mac0).scale)), (lk i)])) p) :
  Calls Try.prog 91 #[v, (Value.func (.func fid) fs cs)] w (Ret fun v w' => v = .bool ((List.range xs.length).any p) ∧ Ext NoB w w') := by
 refine a_8 Try.func91 rfl fun K B => ?_
 replace B : Fr 9 [] [(0, v), (1, (Value.func (.func fid) fs cs))] K := B
 have D : Sep NoB w w [(sl v 2 xs.length (o_7 lk xs))] := f_0 ⟨rfl, hv, trivial⟩
 refine m2 ?_
 refine s1 B (a_1 rfl (evc _ _)) fun M F => ?_; clear B K
 refine n4 ?_
 refine s1 F (a_0 rfl (F.ev rfl)) fun N G => ?_; clear F M
 refine s1 G (a_0 rfl (G.ev rfl)) fun O C => ?_; clear G N
 refine s2 C (a_6 rfl en_110 (ev2 (C.ev rfl) (C.ev rfl)) (indexf_mac xs lk _ _ _ _ p _ (D.ok 0 _ rfl) hlen (hf.step D.ext))) ?_
 rintro P _ R ⟨rfl, I⟩ H; have J := D.step I; clear I C D O
 refine s1 H (w_7 rfl (H.ev rfl) (evc _ _)) fun L A => ?_; clear H P
 refine s1 A (a_1 rfl (A.ev rfl)) fun Q E => ?_; clear A L
 refine n1 ?_
 refine c_8 ?_
 refine a_9 E (.inl rfl) (a_2 E rfl (.tmp rfl)) ?_
 exact ⟨congrArg Value.bool (s_4 p xs.length), J.ext⟩
theorem clo_mac (J : Int) (F : Value) (X : F.oneCell' = true) (b fid : Nat) (fs cs : Array Value) (q : Bool) (w : World) (hb : (blk b 129 [.func (.func fid) fs cs]).p w) (hen : ∀ args W, (callFunc fid args).run Try.prog W = .ok (.enter fid args) W) (hf : ∀ W, Ext NoB w W → Calls Try.prog fid (fs ++ #[(Value.agg #[(Value.int .i64 J), F])] ++ cs) W (Ret fun v w' => v = .bool q ∧ Ext NoB W w')) :
  Calls Try.prog 92 #[(Value.agg #[(Value.int .i64 J), F]), (bptr b 0)] w (Ret fun v w' => v = .bool (!q) ∧ Ext NoB w w') := by
 refine a_8 Try.func92 rfl fun O B => ?_
 replace B : Fr 8 [] [(0, (Value.agg #[(Value.int .i64 J), F])), (1, (bptr b 0))] O := B
 have L : Sep NoB w w [(rob b 129 [(Value.func (.func fid) fs cs)])] := f_0 ⟨rfl, hb, trivial⟩
 refine m2 ?_
 refine s2 B (f_3 L rfl (B.ev rfl) (cs := [(Value.int .i64 J), F]) rfl) ?_
 rintro S _ a ⟨Z, rfl, C⟩ K; clear B L O
 refine s1 K (a_1 rfl (evc _ _)) fun T H => ?_; clear K S
 refine n4 ?_
 refine s1 H (a_3 rfl ty_129 (H.ev rfl) (C.rk 1 rfl) rfl) fun U I => ?_; clear H T
 refine s1 I (c_4 rfl u_7 (I.ev rfl) (C.bk 0 rfl) (l := [(Value.int .i64 J), F]) rfl rfl) fun P A => ?_; clear I U
 refine s2 A (i_5 rfl (A.ev rfl) hen (ev1 (A.ev rfl)) (hf _ C.ext)) ?_
 rintro Q _ Y ⟨rfl, M⟩ D; have N := C.step M; clear A C P
 refine s1 D (f_4 rfl (D.ev rfl)) fun R E => ?_; clear D Q
 refine s1 E (a_1 rfl (E.ev rfl)) fun V G => ?_; clear E R
 refine n1 ?_
 refine c_8 ?_
 refine a_9 G (.inl rfl) (a_2 G rfl (.tmp rfl)) ?_
 exact ⟨rfl, N.ext⟩
theorem all_mac (xs : List MacD) (lk : Nat → Value) (v : Value) (fid : Nat) (fs cs : Array Value) (p : Nat → Bool) (w : World) (hv : SlAt w v 2 xs.length (o_7 lk xs)) (hlen : xs.length ≤ 1000000) (hf : Asks Try.prog w fid fs cs xs.length (fun i => (Value.agg #[(Value.int .i64 ((xs.getD i mac0).scale)), (lk i)])) p) (hone : ∀ i, i < xs.length → (lk i).oneCell' = true) :
  Calls Try.prog 63 #[v, (Value.func (.func fid) fs cs)] w (Ret fun v w' => v = .bool ((List.range xs.length).all p) ∧ Ext NoB w w') := by
 refine a_8 Try.func63 rfl fun M B => ?_
 replace B : Fr 9 [] [(0, v), (1, (Value.func (.func fid) fs cs))] M := B
 have K : Sep NoB w w [(sl v 2 xs.length (o_7 lk xs))] := f_0 ⟨rfl, hv, trivial⟩
 refine m2 ?_
 refine s2 B (f_3 K rfl (B.ev rfl) (cs := [(Value.func (.func fid) fs cs)]) rfl) ?_
 rintro Q _ X ⟨T, rfl, C⟩ J; clear B K M
 refine s1 J (a_1 rfl (evc _ _)) fun R G => ?_; clear J Q
 refine n4 ?_
 refine s1 G (a_0 rfl (G.ev rfl)) fun S H => ?_; clear G R
 refine s1 H (i_0 rfl ev0 (ev1 (H.ev rfl))) fun N A => ?_; clear H S
 refine s2 A (a_6 rfl en_91 (ev2 (A.ev rfl) (A.ev rfl)) (contf_mac xs lk _ 92 #[] #[(bptr T 0)] (fun i => !p i) _ (C.ok 1 _ rfl) hlen ⟨en_92, fun i hi W hW => clo_mac _ _ (hone i hi) _ _ _ _ (p i) W ((C.step hW).bk 0 rfl) hf.1 (fun W' hW' => hf.2 i hi W' (C.ext.trans (hW.trans hW')))⟩)) ?_
 rintro O _ V ⟨rfl, I⟩ D; have L := C.step I; clear I A C N
 refine s1 D (f_4 rfl (D.ev rfl)) fun P E => ?_; clear D O
 refine s1 E (a_1 rfl (E.ev rfl)) fun U F => ?_; clear E P
 refine n1 ?_
 refine c_8 ?_
 refine a_9 F (.inl rfl) (a_2 F rfl (.tmp rfl)) ?_
 exact ⟨congrArg Value.bool (any_not p xs.length), L.ext⟩
end Go.Proofs.Ytohgladndklciaa

namespace Go.Proofs.Ytohgladndklciaa
open Go.RowKit Go.Shelf Go.Eng Go.Hard
theorem en_123 : ∀ args w, (callFunc 123 args).run Try.prog w = .ok (.enter 123 args) w := enters_of Try.func123 (by kernel_rfl) rfl
theorem z_5 : fldK Try.prog 46 3 = some 3 := by kernel_rfl
theorem aa_8 : tyK Try.prog 44 = some (false, 1) := by kernel_rfl
theorem index_ok (xs : List Int) (x : Int) (v : Value) (w : World) (hv : SlAt w v 1 xs.length (ints xs)) (hlen : xs.length ≤ 1000000) :
  Calls Try.prog 123 #[v, (Value.int .i64 x)] w (Ret fun v w' => v = .int .i64 (fidx (fun i => decide (x = xs.getD i 0)) xs.length) ∧ Ext NoB w w') := by
 refine a_8 Try.func123 rfl fun e Q => ?_
 replace Q : Fr 19 [] [(0, v), (1, (Value.int .i64 x))] e := Q
 have V : Sep NoB w w [(sl v 1 xs.length (ints xs))] := f_0 ⟨rfl, hv, trivial⟩
 refine m2 ?_
 refine s1 Q (a_1 rfl (evc _ _)) fun s R => ?_; clear Q e
 refine n2 ?_
 refine m2 ?_
 refine s1 R (a_0 rfl (R.ev rfl)) fun t T => ?_; clear R s
 refine s1 T (c_0 rfl h_8 (T.ev rfl) (V.sk 0 rfl)) fun u a => ?_; clear T t
 refine s1 a (a_0 rfl (evc _ _)) fun y b => ?_; clear a u
 refine n1 ?_
 refine d_0 ?_
 have c := b.as [(8, (Value.int .i64 0)), (7, (Value.int .i64 (xs.length : Int))), (0, v), (1, (Value.int .i64 x))] rfl; clear b
 refine h_3 (G := Nat) (fun (k : Nat) a_ w_ => Fr 19 [] [(8, (Value.int .i64 (k : Int))), (7, (Value.int .i64 (xs.length : Int))), (0, v), (1, (Value.int .i64 x))] a_ ∧ Sep NoB w w_ [(sl v 1 xs.length (ints xs))] ∧ (k ≤ xs.length) ∧ (∀ i, i < k → decide (x = xs.getD i 0) = false)) (fun k => xs.length - k) 0 ⟨c.as _ rfl, V, by omega, by omega⟩ ?_
 clear c V y
 rintro k f AC ⟨D, C, hk, hn⟩
 refine m2 ?_
 refine s1 D (f_9 rfl (D.ev rfl) (D.ev rfl)) fun Y A => ?_; clear D f
 refine n2 ?_
 by_cases W : (k : Int) < (xs.length : Int)
 ·skip
  rw [decide_eq_true W] at A
  refine c_6 A rfl ?_
  refine d_1 ?_
  refine b_0 ?_
  refine b_7 ?_
  refine d_0 ?_
  refine m2 ?_
  refine s1 A (a_0 rfl (A.ev rfl)) fun g H => ?_; clear A Y
  refine s1 H (a_1 rfl (H.ev rfl)) fun j I => ?_; clear H g
  refine n4 ?_
  refine s1 I (a_0 rfl (I.ev rfl)) fun l J => ?_; clear I j
  refine s1 J (a_0 rfl (J.ev rfl)) fun m K => ?_; clear J l
  refine s1 K (a_0 rfl (K.ev rfl)) fun n E => ?_; clear K m
  refine s1 E (b_2 rfl h_8 ty_3 (E.ev rfl) (i := k) (E.ev rfl) (C.sk 0 rfl) (by decide) (by omega)) fun o L => ?_; clear E n
  refine s1 L (c_7 rfl ty_3 (L.ev rfl) (C.sk 0 rfl) (ints_at (by omega))) fun p F => ?_; clear L o
  refine s1 F (j_8 rfl (F.ev rfl) (F.ev rfl)) fun Z B => ?_; clear F p
  refine n1 ?_
  by_cases X : x = (xs.getD k 0)
  ·skip
   rw [decide_eq_true X] at B
   refine c_6 B rfl ?_
   refine b_7 ?_
   have M := B.as [(5, (Value.int .i64 (k : Int)))] rfl; clear B
   refine a_5 ?_
   refine s1 M (a_0 rfl (M.ev rfl)) fun q N => ?_; clear M Z
   refine s1 N (a_1 rfl (N.ev rfl)) fun z S => ?_; clear N q
   refine n1 ?_
   refine c_8 ?_
   refine d_3 ?_
   refine a_7 ?_
   refine a_7 ?_
   refine d_3 ?_
   refine a_7 ?_
   refine a_9 S (.inl rfl) (a_2 S rfl (.tmp rfl)) ?_
   exact ⟨by first | rw [k_7 (by omega) hn (decide_eq_true (by assumption))] | rw [j_2 (fun i hi => hn i (by omega))], C.ext⟩
  skip
  rw [decide_eq_false X] at B
  refine b_5 B rfl ?_
  refine d_1 ?_
  refine g_8 ?_
  refine b_0 ?_
  have O := B.as [(8, (Value.int .i64 (k : Int))), (7, (Value.int .i64 (xs.length : Int))), (0, v), (1, (Value.int .i64 x))] rfl; clear B
  refine a_5 ?_
  refine s1 O (f_6 rfl (O.ev rfl) (evc _ _) (by omega) (by omega)) fun r P => ?_; clear O Z
  refine s1 P (a_0 rfl (P.ev rfl)) fun AA d => ?_; clear P r
  refine e_8 ?_
  exact b_0 ⟨k + 1, ⟨d.as _ rfl, C, by omega, (fun i hi => by rcases Nat.lt_succ_iff_lt_or_eq.1 hi with h | h; exact hn i h; subst h; exact decide_eq_false (by assumption))⟩, by omega⟩
 skip
 rw [decide_eq_false W] at A
 refine b_5 A rfl ?_
 refine h_1 ?_
 refine b_4 ?_
 refine b_4 ?_
 refine f_7 ?_
 refine b_0 ?_
 refine m2 ?_
 refine s1 A (a_1 rfl (evc _ _)) fun AB U => ?_; clear A Y
 refine n1 ?_
 refine c_8 ?_
 refine a_9 U (.inl rfl) (a_2 U rfl (.tmp rfl)) ?_
 exact ⟨by first | rw [k_7 (by omega) hn (decide_eq_true (by assumption))] | rw [j_2 (fun i hi => hn i (by omega))], C.ext⟩
theorem contains_ok (xs : List Int) (x : Int) (v : Value) (w : World) (hv : SlAt w v 1 xs.length (ints xs)) (hlen : xs.length ≤ 1000000) :
  Calls Try.prog 122 #[v, (Value.int .i64 x)] w (Ret fun v w' => v = .bool (decide (x ∈ xs)) ∧ Ext NoB w w') := by
 refine a_8 Try.func122 rfl fun K B => ?_
 replace B : Fr 9 [] [(0, v), (1, (Value.int .i64 x))] K := B
 have I : Sep NoB w w [(sl v 1 xs.length (ints xs))] := f_0 ⟨rfl, hv, trivial⟩
 refine m2 ?_
 refine s1 B (a_1 rfl (evc _ _)) fun M E => ?_; clear B K
 refine n4 ?_
 refine s1 E (a_0 rfl (E.ev rfl)) fun N F => ?_; clear E M
 refine s1 F (a_0 rfl (F.ev rfl)) fun O C => ?_; clear F N
 refine s2 C (a_6 rfl en_123 (ev2 (C.ev rfl) (C.ev rfl)) (index_ok xs x _ _ (I.sk 0 rfl) hlen)) ?_
 rintro P _ R ⟨rfl, H⟩ G; have J := I.step H; clear H C I O
 refine s1 G (w_7 rfl (G.ev rfl) (evc _ _)) fun L A => ?_; clear G P
 refine s1 A (a_1 rfl (A.ev rfl)) fun Q D => ?_; clear A L
 refine n1 ?_
 refine c_8 ?_
 refine a_9 D (.inl rfl) (a_2 D rfl (.tmp rfl)) ?_
 exact ⟨congrArg Value.bool ((s_4 (fun i => decide (x = xs.getD i 0)) xs.length).trans any_mem), J.ext⟩
end Go.Proofs.Ytohgladndklciaa

namespace Go.Proofs.Ytohgladndklciaa
open Go.RowKit Go.Shelf Go.Eng Go.Hard
theorem fd_37_0 : fldK Try.prog 37 0 = some 0 := by kernel_rfl
theorem en_48 : ∀ args w, (callFunc 48 args).run Try.prog w = .ok (.enter 48 args) w := enters_of Try.func48 (by kernel_rfl) rfl
theorem y_4 : tyK Try.prog 37 = some (true, 3) := by kernel_rfl
theorem fd_103_0 : fldK Try.prog 103 0 = some 0 := by kernel_rfl
theorem en_93 : ∀ args w, (callFunc 93 args).run Try.prog w = .ok (.enter 93 args) w := enters_of Try.func93 (by kernel_rfl) rfl
theorem en_98 : ∀ args w, (callFunc 98 args).run Try.prog w = .ok (.enter 98 args) w := enters_of Try.func98 (by kernel_rfl) rfl
theorem en_97 : ∀ args w, (callFunc 97 args).run Try.prog w = .ok (.enter 97 args) w := enters_of Try.func97 (by kernel_rfl) rfl
theorem j_4 : fldK Try.prog 106 2 = some 2 := by kernel_rfl
theorem n_8 : tyK Try.prog 104 = some (false, 1) := by kernel_rfl
theorem scale_ok (n : Int) (sc : Int) (vt vm : Value) (w : World) (h1_ : vt.oneCell' = true) (h2_ : vm.oneCell' = true) (hsc : 1 ≤ sc ∧ sc ≤ 4) :
  Calls Try.prog 93 #[(Value.agg #[(Value.int .i64 sc), vt, vm]), (Value.int .i64 n)] w (Ret fun v w' => v = .bool (inB n 0 (sc - 1)) ∧ Ext NoB w w') := by
 refine a_8 Try.func93 rfl fun L B => ?_
 replace B : Fr 10 [] [(0, (Value.agg #[(Value.int .i64 sc), vt, vm])), (1, (Value.int .i64 n))] L := B
 have J : Sep NoB w w [] := Sep.start _ _
 refine m2 ?_
 refine s2 B (f_3 J rfl (B.ev rfl) (cs := [(Value.int .i64 sc), vt, vm]) rfl) ?_
 rintro Q _ V ⟨U, rfl, K⟩ I; clear B J L
 refine s1 I (a_1 rfl (evc _ _)) fun R G => ?_; clear I Q
 refine n4 ?_
 refine s1 G (a_0 rfl (G.ev rfl)) fun S H => ?_; clear G R
 refine s1 H (a_4 rfl fd_37_0 (H.ev rfl)) fun M C => ?_; clear H S
 refine s1 C (a_3 rfl ty_3 (C.ev rfl) (K.bk 0 rfl) rfl) fun N D => ?_; clear C M
 refine s1 D (g_1 rfl (D.ev rfl) (evc _ _) (by omega) (by omega)) fun O A => ?_; clear D N
 refine s2 A (a_6 rfl en_47 (ev3 (A.ev rfl) (evc _ _) (A.ev rfl)) (n_9 _ _ _ _)) ?_
 rintro P _ W_ ⟨rfl, hW_⟩ E; have hW2_ := hW_.symm; subst hW2_; clear hW_ A O
 refine s1 E (a_1 rfl (E.ev rfl)) fun T F => ?_; clear E P
 refine n1 ?_
 refine c_8 ?_
 refine a_9 F (.inl rfl) (a_2 F rfl (.tmp rfl)) ?_
 exact ⟨rfl, K.ext⟩
theorem blk_ok (M N X : Int) (w : World) :
  Calls Try.prog 98 #[(Value.agg #[(Value.int .i64 M), (Value.int .i64 N), (Value.int .i64 X)])] w (Ret fun v w' => v = .bool (blkB (M, N, X)) ∧ Ext NoB w w') := by
 refine a_8 Try.func98 rfl fun c D => ?_
 replace D : Fr 11 [] [(0, (Value.agg #[(Value.int .i64 M), (Value.int .i64 N), (Value.int .i64 X)]))] c := D
 have a : Sep NoB w w [] := Sep.start _ _
 refine m2 ?_
 refine s2 D (f_3 a rfl (D.ev rfl) (cs := [(Value.int .i64 M), (Value.int .i64 N), (Value.int .i64 X)]) rfl) ?_
 rintro o _ y ⟨x, rfl, W⟩ Z; clear D a c
 refine s1 Z (a_1 rfl (evc _ _)) fun p S => ?_; clear Z o
 refine n4 ?_
 refine s1 S (a_4 rfl fd_100_0 (S.ev rfl)) fun q T => ?_; clear S p
 refine s1 T (c_4 rfl g_5 (T.ev rfl) (W.bk 0 rfl) (l := [(Value.int .i64 M), (Value.int .i64 N)]) rfl rfl) fun d E => ?_; clear T q
 refine s2 E (a_6 rfl en_48 (ev1 (E.ev rfl)) (values_ok _ _ _)) ?_
 rintro e _ t ⟨rfl, U⟩ F; have C := W.step U; clear U E W d
 refine s1 F (a_0 rfl (F.ev rfl)) fun Y A => ?_; clear F e
 rcases Bool.eq_false_or_eq_true ((y_2 (M, N))) with L | L
 ·skip
  rw [L] at A
  refine s5 A (a_4 rfl fd_100_1 (A.ev rfl)) fun f G => ?_; clear A Y
  refine s5 G (a_3 rfl ty_3 (G.ev rfl) (C.bk 0 rfl) rfl) fun g H => ?_; clear G f
  refine s6 H (a_6 rfl en_70 (ev1 (H.ev rfl)) (value_ok _ _)) ?_
  rintro h _ u ⟨rfl, V⟩ B; have b := C.step V; clear V H C g
  refine s1 B (b_3 rfl (B.ev rfl) (B.ev rfl)) fun i I => ?_; clear B h
  refine s1 I (a_1 rfl (I.ev rfl)) fun r O => ?_; clear I i
  refine n1 ?_
  refine c_8 ?_
  refine a_9 O (.inl rfl) (a_2 O rfl (.tmp rfl)) ?_
  exact ⟨congrArg Value.bool (by unfold blkB; simp [*]), b.ext⟩
 skip
 rw [L] at A
 refine s3 A fun j P => ?_; clear A Y
 refine s3 P fun k Q => ?_; clear P j
 refine s3 Q fun m J => ?_; clear Q k
 refine s1 J (c_2 rfl (J.ev rfl) (evc _ _)) fun n K => ?_; clear J m
 refine s1 K (a_1 rfl (K.ev rfl)) fun s R => ?_; clear K n
 refine n1 ?_
 refine c_8 ?_
 refine a_9 R (.inl rfl) (a_2 R rfl (.tmp rfl)) ?_
 exact ⟨congrArg Value.bool (by unfold blkB; simp [*]), C.ext⟩
theorem machine_ok (sc : Int) (vt vm : Value) (w : World) (h1_ : vt.oneCell' = true) (h2_ : vm.oneCell' = true) (hsc : 1 ≤ sc ∧ sc ≤ 4) (m : MacD) (vk : Value) (hk : SlAt w vk 3 m.blocks.length (trips m.blocks)) (hbl : m.blocks.length ≤ 1000000) :
  Calls Try.prog 66 #[(Value.agg #[(Value.int .i64 sc), vt, vm]), (Value.agg #[(Value.int .i64 m.scale), vk])] w (Ret fun v w' => v = .bool (macB sc m) ∧ Ext NoB w w') := by
 refine a_8 Try.func66 rfl fun d F => ?_
 replace F : Fr 14 [] [(0, (Value.agg #[(Value.int .i64 sc), vt, vm])), (1, (Value.agg #[(Value.int .i64 m.scale), vk]))] d := F
 have a : Sep NoB w w [(sl vk 3 m.blocks.length (trips m.blocks))] := f_0 ⟨rfl, hk, trivial⟩
 refine m2 ?_
 refine s2 F (f_3 a rfl (F.ev rfl) (cs := [(Value.int .i64 sc), vt, vm]) rfl) ?_
 rintro u _ w3 ⟨b4, rfl, b⟩ Q; clear F a d
 refine s2 Q (f_3 b rfl (Q.ev rfl) (cs := [(Value.int .i64 m.scale), vk]) rfl) ?_
 rintro x _ w8 ⟨b9, rfl, E⟩ Z; clear Q b u
 refine s1 Z (a_1 rfl (evc _ _)) fun e G => ?_; clear Z x
 refine n4 ?_
 refine s1 G (c_4 rfl y_4 (G.ev rfl) (E.bk 1 rfl) (l := [(Value.int .i64 sc), vt, vm]) rfl rfl) fun f H => ?_; clear G e
 refine s1 H (a_4 rfl fd_103_0 (H.ev rfl)) fun g I => ?_; clear H f
 refine s1 I (a_3 rfl ty_3 (I.ev rfl) (E.bk 0 rfl) rfl) fun h C => ?_; clear I g
 refine s2 C (a_6 rfl en_93 (ev2 (C.ev rfl) (C.ev rfl)) (scale_ok m.scale sc _ _ _ h1_ h2_ hsc)) ?_
 rintro j _ AA ⟨rfl, V⟩ J; have B := E.step V; clear V C E h
 refine s1 J (a_0 rfl (J.ev rfl)) fun Y A => ?_; clear J j
 rcases Bool.eq_false_or_eq_true ((inB m.scale 0 (sc - 1))) with P | P
 ·skip
  rw [P] at A
  refine s5 A (a_4 rfl fd_103_1 (A.ev rfl)) fun k K => ?_; clear A Y
  refine s5 K (a_3 rfl ty_101 (K.ev rfl) (B.bk 0 rfl) rfl) fun n L => ?_; clear K k
  refine s6 L (a_6 rfl en_97 (ev2 (L.ev rfl) (evf _ _)) (all_blk m.blocks _ 98 #[] #[] (fun i => blkB (m.blocks.getD i (0, 0, 0))) _ (B.sk 2 rfl) (by omega) ⟨en_98, fun i hi W hW => blk_ok _ _ _ W⟩)) ?_
  rintro o _ AB ⟨rfl, X⟩ D; have c := B.step X; clear X L B n
  refine s1 D (b_3 rfl (D.ev rfl) (D.ev rfl)) fun p M => ?_; clear D o
  refine s1 M (a_1 rfl (M.ev rfl)) fun y R => ?_; clear M p
  refine n1 ?_
  refine c_8 ?_
  refine a_9 R (.inl rfl) (a_2 R rfl (.tmp rfl)) ?_
  exact ⟨congrArg Value.bool (by unfold macB allI; simp [*]), c.ext⟩
 skip
 rw [P] at A
 refine s3 A fun q S => ?_; clear A Y
 refine s3 S fun r T => ?_; clear S q
 refine s3 T fun s N => ?_; clear T r
 refine s1 N (c_2 rfl (N.ev rfl) (evc _ _)) fun t O => ?_; clear N s
 refine s1 O (a_1 rfl (O.ev rfl)) fun z U => ?_; clear O t
 refine n1 ?_
 refine c_8 ?_
 refine a_9 U (.inl rfl) (a_2 U rfl (.tmp rfl)) ?_
 exact ⟨congrArg Value.bool (by unfold macB allI; simp [*]), B.ext⟩
theorem mshort_ok (m : MacD) (vk : Value) (w : World) (hk : SlAt w vk 3 m.blocks.length (trips m.blocks)) :
  Calls Try.prog 64 #[(Value.agg #[(Value.int .i64 m.scale), vk])] w (Ret fun v w' => v = .bool (decide ((m.blocks.length : Int) ≤ 5)) ∧ Ext NoB w w') := by
 refine a_8 Try.func64 rfl fun K A => ?_
 replace A : Fr 7 [] [(0, (Value.agg #[(Value.int .i64 m.scale), vk]))] K := A
 have J : Sep NoB w w [(sl vk 3 m.blocks.length (trips m.blocks))] := f_0 ⟨rfl, hk, trivial⟩
 refine m2 ?_
 refine s2 A (f_3 J rfl (A.ev rfl) (cs := [(Value.int .i64 m.scale), vk]) rfl) ?_
 rintro O _ T ⟨S, rfl, H⟩ I; clear A J K
 refine s1 I (a_1 rfl (evc _ _)) fun P F => ?_; clear I O
 refine n4 ?_
 refine s1 F (a_4 rfl fd_103_1 (F.ev rfl)) fun Q G => ?_; clear F P
 refine s1 G (a_3 rfl ty_101 (G.ev rfl) (H.bk 0 rfl) rfl) fun L B => ?_; clear G Q
 refine s1 B (c_0 rfl ab_4 (B.ev rfl) (H.sk 1 rfl)) fun M C => ?_; clear B L
 refine s1 C (p_1 rfl (C.ev rfl) (evc _ _)) fun N D => ?_; clear C M
 refine s1 D (a_1 rfl (D.ev rfl)) fun R E => ?_; clear D N
 refine n1 ?_
 refine c_8 ?_
 refine a_9 E (.inl rfl) (a_2 E rfl (.tmp rfl)) ?_
 exact ⟨rfl, H.ext⟩
theorem tshort_ok (t : TabD) (vr vb : Value) (w : World) (hr : SlAt w vr 2 t.rows.length (pairs t.rows)) (hb : SlAt w vb 1 t.brk.length (ints t.brk)) (hrl : t.rows.length ≤ 1000000) (hbl : t.brk.length ≤ 1000000) :
  Calls Try.prog 62 #[(Value.agg #[(Value.int .i64 t.frm), (Value.int .i64 t.dst), vr, vb, (Value.int .i64 t.err)])] w (Ret fun v w' => v = .bool (decide ((t.rows.length : Int) ≤ 8)) ∧ Ext NoB w w') := by
 refine a_8 Try.func62 rfl fun K A => ?_
 replace A : Fr 7 [] [(0, (Value.agg #[(Value.int .i64 t.frm), (Value.int .i64 t.dst), vr, vb, (Value.int .i64 t.err)]))] K := A
 have J : Sep NoB w w [(sl vr 2 t.rows.length (pairs t.rows)), (sl vb 1 t.brk.length (ints t.brk))] := f_0 ⟨rfl, hr, rfl, hb, trivial⟩
 refine m2 ?_
 refine s2 A (f_3 J rfl (A.ev rfl) (cs := [(Value.int .i64 t.frm), (Value.int .i64 t.dst), vr, vb, (Value.int .i64 t.err)]) rfl) ?_
 rintro O _ T ⟨S, rfl, H⟩ I; clear A J K
 refine s1 I (a_1 rfl (evc _ _)) fun P F => ?_; clear I O
 refine n4 ?_
 refine s1 F (a_4 rfl j_4 (F.ev rfl)) fun Q G => ?_; clear F P
 refine s1 G (a_3 rfl n_8 (G.ev rfl) (H.bk 0 rfl) rfl) fun L B => ?_; clear G Q
 refine s1 B (c_0 rfl k_8 (B.ev rfl) (H.sk 1 rfl)) fun M C => ?_; clear B L
 refine s1 C (p_1 rfl (C.ev rfl) (evc _ _)) fun N D => ?_; clear C M
 refine s1 D (a_1 rfl (D.ev rfl)) fun R E => ?_; clear D N
 refine n1 ?_
 refine c_8 ?_
 refine a_9 E (.inl rfl) (a_2 E rfl (.tmp rfl)) ?_
 exact ⟨rfl, H.ext⟩
end Go.Proofs.Ytohgladndklciaa

namespace Go.Proofs.Ytohgladndklciaa
open Go.RowKit Go.Shelf Go.Eng Go.Hard
theorem fd_106_3 : fldK Try.prog 106 3 = some 3 := by kernel_rfl
theorem en_78 : ∀ args w, (callFunc 78 args).run Try.prog w = .ok (.enter 78 args) w := enters_of Try.func78 (by kernel_rfl) rfl
theorem en_69 : ∀ args w, (callFunc 69 args).run Try.prog w = .ok (.enter 69 args) w := enters_of Try.func69 (by kernel_rfl) rfl
theorem j_7 : fldK Try.prog 46 2 = some 2 := by kernel_rfl
theorem r_5 : tyK Try.prog 43 = some (false, 1) := by kernel_rfl
theorem r_6 : Try.prog.underlying 43 = some (.slice 75) := by kernel_rfl
theorem z_1 : tyK Try.prog 75 = some (true, 2) := by kernel_rfl
theorem z_6 : fldK Try.prog 75 0 = some 0 := by kernel_rfl
theorem ty_46 : tyK Try.prog 46 = some (true, 5) := by kernel_rfl
theorem convclo_ok (j : Nat) (X M : Int) (t : TabD) (vr vb : Value) (A B : Nat) (w : World) (q : (blk A 30 [.int .i64 X, .int .i64 M]).p w) (r : (blk B 106 [.int .i64 t.frm, .int .i64 t.dst, vr, vb, .int .i64 t.err]).p w) (hr : SlAt w vr 2 t.rows.length (pairs t.rows)) (hb : SlAt w vb 1 t.brk.length (ints t.brk)) (hrl : t.rows.length ≤ 1000000) (hj : j + 1 < t.rows.length) :
  Calls Try.prog 78 #[(Value.int .i64 (j : Int)), (bptr A 0), (bptr B 0)] w (Ret fun v w' => v = .bool (brB t (X, M) j) ∧ Ext NoB w w') := by
 refine a_8 Try.func78 rfl fun g J => ?_
 replace J : Fr 26 [] [(0, (Value.int .i64 (j : Int))), (1, (bptr A 0)), (2, (bptr B 0))] g := J
 have e2_ : (t.rows.getD ((j : Int) + 1).toNat (0, 0)).1 = (t.rows.getD (j + 1) (0, 0)).1 := by rw [show ((j : Int) + 1).toNat = j + 1 from by omega]
 have L : Sep NoB w w [(rob A 30 [(Value.int .i64 X), (Value.int .i64 M)]), (rob B 106 [(Value.int .i64 t.frm), (Value.int .i64 t.dst), vr, vb, (Value.int .i64 t.err)]), (sl vr 2 t.rows.length (pairs t.rows)), (sl vb 1 t.brk.length (ints t.brk))] := f_0 ⟨rfl, q, rfl, r, rfl, hr, rfl, hb, trivial⟩
 refine m2 ?_
 refine s1 J (a_1 rfl (evc _ _)) fun y Y => ?_; clear J g
 refine n2 ?_
 have K := Y.as [(0, (Value.int .i64 (j : Int))), (1, (bptr A 0)), (2, (bptr B 0))] rfl; clear Y
 by_cases b : M ≤ ((t.rows.getD j (0, 0)).1)
 ·skip
  have Z := K.as [(0, (Value.int .i64 (j : Int))), (1, (bptr A 0)), (2, (bptr B 0))] rfl; clear K
  refine g_6 mixed Z L 19 [[], [0], [], [2], [], [3, 4], [5], [6], [1, 7], [8], [9], [9, 10], [9], [9, 12], [9], [9, 14], [9, 13, 15], [9, 16], [9, 17]] [(Yd.val (bptr A 1)), (Yd.val (Value.int .i64 M)), (Yd.val (bptr B 2)), (Yd.val vr), (Yd.val (Value.int .i64 (j : Int))), (Yd.val (eptr vr (j * 2))), (Yd.val (eptr vr (j * 2 + 0))), (Yd.val (Value.int .i64 ((t.rows.getD j (0, 0)).1))), (Yd.val (Value.bool true)), (Yd.val (Value.bool true)), (Yd.val undef), (Yd.val undef), (Yd.val undef), (Yd.val undef), (Yd.val undef), (Yd.val undef), (Yd.val undef), (Yd.val undef), (Yd.val undef)] (by decide +kernel) rfl rfl ?_ ?_
  ·skip
   refine dq (fun a w hA hS hd => a_4 rfl p_7 (hA.ev rfl)) ?_
   refine dq (fun a w hA hS hd => a_3 rfl ty_3 (hq hd 0) (hS.rk 0 rfl) rfl) ?_
   refine dq (fun a w hA hS hd => a_4 rfl j_4 (hA.ev rfl)) ?_
   refine dq (fun a w hA hS hd => a_3 rfl n_8 (hq hd 2) (hS.rk 1 rfl) rfl) ?_
   refine dq (fun a w hA hS hd => a_0 rfl (hA.ev rfl)) ?_
   refine dq (fun a w hA hS hd => b_2 rfl k_8 j_0 (hq hd 3) (i := j) (hq hd 4) (hS.sk 2 rfl) (by decide) (by omega)) ?_
   refine dq (fun a w hA hS hd => e_6 rfl j_5 (hq hd 5) (hS.sk 2 rfl) (by rw [((hS.sk 2 rfl)).1]; omega)) ?_
   refine dq (fun a w hA hS hd => c_7 rfl ty_3 (hq hd 6) (hS.sk 2 rfl) (i_9 (by omega))) ?_
   refine ⟨fun a w hA hS hd => by have c := hx hd 1; have d := hx hd 7; exact d_9 rfl (dv (p_1 rfl (b_9 c) (b_9 d)) hS (by show Value.bool _ = _; simp only [decide_eq_true b, decide_true, decide_false, Bool.not_true, Bool.not_false])), ?_⟩
   refine dq (fun a w hA hS hd => a_0 rfl (hq hd 8)) ?_
   refine dn 9 ?_
   refine dn 9 ?_
   refine dn 9 ?_
   refine dn 9 ?_
   refine dn 9 ?_
   refine dn 9 ?_
   refine dn 9 ?_
   refine dn 9 ?_
   refine dn 9 ?_
   trivial
  intro o z N e E; clear Z L
  have O := N.add (hz E 9); clear N
  have P := O.add (hz E 11); clear O
  have Q := P.add (hz E 18); clear P
  clear E
  refine s3 Q fun h G => ?_; clear Q o
  refine s1 G (b_3 rfl (G.ev rfl) (evc _ _)) fun k H => ?_; clear G h
  refine s1 H (a_1 rfl (H.ev rfl)) fun s R => ?_; clear H k
  refine n1 ?_
  refine c_8 ?_
  refine a_9 R (.inl rfl) (a_2 R rfl (.tmp rfl)) ?_
  exact ⟨congrArg Value.bool (by unfold brB tx; dsimp only; (rw [Bool.eq_iff_iff]; (try simp only [Bool.true_and, Bool.false_and, Bool.and_true, Bool.and_false, Bool.false_or, Bool.true_or, Bool.or_false, Bool.or_true, true_and, and_true, false_and, and_false, false_or, or_false, true_or, or_true, Bool.and_eq_true, Bool.or_eq_true, Bool.not_eq_true', decide_eq_true_eq, decide_eq_false_iff_not, Bool.false_eq_true, Bool.true_eq_false, Bool.not_true, Bool.not_false, eq_self_iff_true, true_iff, false_iff, iff_true, iff_false, not_true, not_false_eq_true]); omega)), e.ext⟩
 skip
 have S := K.as [(0, (Value.int .i64 (j : Int))), (1, (bptr A 0)), (2, (bptr B 0))] rfl; clear K
 refine g_6 mixed S L 19 [[], [0], [], [2], [], [3, 4], [5], [6], [1, 7], [8], [9], [9, 10], [9], [9, 12], [9], [9, 14], [9, 13, 15], [9, 16], [9, 17]] [(Yd.val (bptr A 1)), (Yd.val (Value.int .i64 M)), (Yd.val (bptr B 2)), (Yd.val vr), (Yd.val (Value.int .i64 (j : Int))), (Yd.val (eptr vr (j * 2))), (Yd.val (eptr vr (j * 2 + 0))), (Yd.val (Value.int .i64 ((t.rows.getD j (0, 0)).1))), (Yd.val (Value.bool false)), (Yd.val (Value.bool false)), (Yd.val (bptr A 0)), (Yd.val (Value.int .i64 X)), (Yd.val (bptr B 2)), (Yd.val vr), (Yd.val (Value.int .i64 (j : Int))), (Yd.val (Value.int .i64 ((j : Int) + 1))), (Yd.val (eptr vr ((j + 1) * 2))), (Yd.val (eptr vr ((j + 1) * 2 + 0))), (Yd.val (Value.int .i64 ((t.rows.getD (j + 1) (0, 0)).1)))] (by decide +kernel) rfl rfl ?_ ?_
 ·skip
  refine dq (fun a w hA hS hd => a_4 rfl p_7 (hA.ev rfl)) ?_
  refine dq (fun a w hA hS hd => a_3 rfl ty_3 (hq hd 0) (hS.rk 0 rfl) rfl) ?_
  refine dq (fun a w hA hS hd => a_4 rfl j_4 (hA.ev rfl)) ?_
  refine dq (fun a w hA hS hd => a_3 rfl n_8 (hq hd 2) (hS.rk 1 rfl) rfl) ?_
  refine dq (fun a w hA hS hd => a_0 rfl (hA.ev rfl)) ?_
  refine dq (fun a w hA hS hd => b_2 rfl k_8 j_0 (hq hd 3) (i := j) (hq hd 4) (hS.sk 2 rfl) (by decide) (by omega)) ?_
  refine dq (fun a w hA hS hd => e_6 rfl j_5 (hq hd 5) (hS.sk 2 rfl) (by rw [((hS.sk 2 rfl)).1]; omega)) ?_
  refine dq (fun a w hA hS hd => c_7 rfl ty_3 (hq hd 6) (hS.sk 2 rfl) (i_9 (by omega))) ?_
  refine ⟨fun a w hA hS hd => by have c := hx hd 1; have d := hx hd 7; exact d_9 rfl (dv (p_1 rfl (b_9 c) (b_9 d)) hS (by show Value.bool _ = _; simp only [decide_eq_false b, decide_true, decide_false, Bool.not_true, Bool.not_false])), ?_⟩
  refine dq (fun a w hA hS hd => a_0 rfl (hq hd 8)) ?_
  refine dy 9 (fun a w hA hS hd => a_4 rfl p_6 (hA.ev rfl)) ?_
  refine dy 9 (fun a w hA hS hd => a_3 rfl ty_3 (hq hd 10) (hS.rk 0 rfl) rfl) ?_
  refine dy 9 (fun a w hA hS hd => a_4 rfl j_4 (hA.ev rfl)) ?_
  refine dy 9 (fun a w hA hS hd => a_3 rfl n_8 (hq hd 12) (hS.rk 1 rfl) rfl) ?_
  refine dy 9 (fun a w hA hS hd => a_0 rfl (hA.ev rfl)) ?_
  refine dy 9 (fun a w hA hS hd => f_6 rfl (hq hd 14) (evc _ _) (by omega) (by omega)) ?_
  refine dy 9 (fun a w hA hS hd => b_2 rfl k_8 j_0 (hq hd 13) (i := j + 1) ((hq hd 15).trans (congrArg (Value.int .i64) (show ((j : Int) + 1 : Int) = ((j + 1 : Nat) : Int) by omega))) (hS.sk 2 rfl) (by decide) (by omega)) ?_
  refine dy 9 (fun a w hA hS hd => e_6 rfl j_5 (hq hd 16) (hS.sk 2 rfl) (by rw [((hS.sk 2 rfl)).1]; omega)) ?_
  refine dy 9 (fun a w hA hS hd => c_7 rfl ty_3 (hq hd 17) (hS.sk 2 rfl) (i_9 (by omega))) ?_
  trivial
 intro l x T f F; clear S L
 have U := T.add (hz F 9); clear T
 have V := U.add (hz F 11); clear U
 have C := V.add (hz F 18); clear V
 clear F
 refine s5 C (w_7 rfl (C.ev rfl) (C.ev rfl)) fun m D => ?_; clear C l
 refine s1 D (c_2 rfl (D.ev rfl) (D.ev rfl)) fun n I => ?_; clear D m
 refine s1 I (a_1 rfl (I.ev rfl)) fun u W => ?_; clear I n
 refine n1 ?_
 refine c_8 ?_
 refine a_9 W (.inl rfl) (a_2 W rfl (.tmp rfl)) ?_
 exact ⟨congrArg Value.bool (by unfold brB tx; dsimp only; (rw [Bool.eq_iff_iff]; (try simp only [Bool.true_and, Bool.false_and, Bool.and_true, Bool.and_false, Bool.false_or, Bool.true_or, Bool.or_false, Bool.or_true, true_and, and_true, false_and, and_false, false_or, or_false, true_or, or_true, Bool.and_eq_true, Bool.or_eq_true, Bool.not_eq_true', decide_eq_true_eq, decide_eq_false_iff_not, Bool.false_eq_true, Bool.true_eq_false, Bool.not_true, Bool.not_false, eq_self_iff_true, true_iff, false_iff, iff_true, iff_false, not_true, not_false_eq_true]); omega)), f.ext⟩
theorem convclo_at (x : Int) (C D : Int) (t : TabD) (vr vb : Value) (A B : Nat) (w : World) (E : (blk A 30 [.int .i64 C, .int .i64 D]).p w) (F : (blk B 106 [.int .i64 t.frm, .int .i64 t.dst, vr, vb, .int .i64 t.err]).p w) (hr : SlAt w vr 2 t.rows.length (pairs t.rows)) (hb : SlAt w vb 1 t.brk.length (ints t.brk)) (hrl : t.rows.length ≤ 1000000) (hx : 0 ≤ x ∧ x ≤ (t.rows.length : Int) - 2) : Calls Try.prog 78 #[.int .i64 x, bptr A 0, bptr B 0] w (Ret fun v w' => v = .bool (brB t (C, D) x.toNat) ∧ Ext NoB w w') := by
 obtain ⟨j, rfl⟩ : ∃ j : Nat, x = (j : Int) := ⟨x.toNat, by omega⟩
 exact convclo_ok j C D t vr vb A B w E F hr hb hrl (by omega)
theorem converts_ok (M S : Int) (t : TabD) (vr vb : Value) (w : World) (hr : SlAt w vr 2 t.rows.length (pairs t.rows)) (hb : SlAt w vb 1 t.brk.length (ints t.brk)) (hrl : t.rows.length ≤ 1000000) (hbl : t.brk.length ≤ 1000000) (n : Int) (hV : TabV n t) :
  Calls Try.prog 49 #[(Value.agg #[(Value.int .i64 t.frm), (Value.int .i64 t.dst), vr, vb, (Value.int .i64 t.err)]), (Value.agg #[(Value.int .i64 M), (Value.int .i64 S)])] w (Ret fun v w' => v = .bool (r_7 t (M, S)) ∧ Ext NoB w w') := by
 refine a_8 Try.func49 rfl fun a0 L => ?_
 replace L : Fr 31 [] [(0, (Value.agg #[(Value.int .i64 t.frm), (Value.int .i64 t.dst), vr, vb, (Value.int .i64 t.err)])), (1, (Value.agg #[(Value.int .i64 M), (Value.int .i64 S)]))] a0 := L
 have hln := hV.len; have e2_ : (t.rows.getD ((t.rows.length : Int) - 1).toNat (0, 0)).1 = (t.rows.getD (t.rows.length - 1) (0, 0)).1 := by rw [show ((t.rows.length : Int) - 1).toNat = t.rows.length - 1 from by omega]
 have s : Sep NoB w w [(sl vr 2 t.rows.length (pairs t.rows)), (sl vb 1 t.brk.length (ints t.brk))] := f_0 ⟨rfl, hr, rfl, hb, trivial⟩
 refine m2 ?_
 refine s2 L (f_3 s rfl (L.ev rfl) (cs := [(Value.int .i64 t.frm), (Value.int .i64 t.dst), vr, vb, (Value.int .i64 t.err)]) rfl) ?_
 rintro a1 _ w3 ⟨K, rfl, u⟩ V; clear L s a0
 refine s2 V (f_3 u rfl (V.ev rfl) (cs := [(Value.int .i64 M), (Value.int .i64 S)]) rfl) ?_
 rintro a6 _ w8 ⟨N, rfl, J⟩ r; clear V u a1
 refine s1 r (a_1 rfl (evc _ _)) fun AN T => ?_; clear r a6
 refine n2 ?_
 refine b_7 ?_
 have C := T.as [(3, (bptr N 0)), (2, (bptr K 0))] rfl; clear T
 by_cases o : M < ((t.rows.getD 0 (0, 0)).1)
 ·skip
  have U := C.as [(3, (bptr N 0)), (2, (bptr K 0))] rfl; clear C
  refine g_6 mixed U J 20 [[], [0], [], [2], [3], [4], [5], [1, 6], [7], [8], [8, 9], [8], [8, 11], [8], [8, 13], [8, 14], [8, 15], [8, 12, 16], [8, 17], [8, 18]] [(Yd.val (bptr N 0)), (Yd.val (Value.int .i64 M)), (Yd.val (bptr K 2)), (Yd.val vr), (Yd.val (eptr vr (0 * 2))), (Yd.val (eptr vr (0 * 2 + 0))), (Yd.val (Value.int .i64 ((t.rows.getD 0 (0, 0)).1))), (Yd.val (Value.bool true)), (Yd.val (Value.bool true)), (Yd.val undef), (Yd.val undef), (Yd.val undef), (Yd.val undef), (Yd.val undef), (Yd.val undef), (Yd.val undef), (Yd.val undef), (Yd.val undef), (Yd.val undef), (Yd.val undef)] (by decide +kernel) rfl rfl ?_ ?_
  ·skip
   refine dq (fun a w hA hS hd => a_4 rfl p_6 (hA.ev rfl)) ?_
   refine dq (fun a w hA hS hd => a_3 rfl ty_3 (hq hd 0) (hS.bk 0 rfl) rfl) ?_
   refine dq (fun a w hA hS hd => a_4 rfl j_4 (hA.ev rfl)) ?_
   refine dq (fun a w hA hS hd => a_3 rfl n_8 (hq hd 2) (hS.bk 1 rfl) rfl) ?_
   refine dq (fun a w hA hS hd => b_2 rfl k_8 j_0 (hq hd 3) (i := 0) (show _ = Value.int .i64 ((0 : Nat) : Int) from (evc _ _)) (hS.sk 2 rfl) (by decide) (by omega)) ?_
   refine dq (fun a w hA hS hd => e_6 rfl j_5 (hq hd 4) (hS.sk 2 rfl) (by rw [((hS.sk 2 rfl)).1]; omega)) ?_
   refine dq (fun a w hA hS hd => c_7 rfl ty_3 (hq hd 5) (hS.sk 2 rfl) (i_9 (by omega))) ?_
   refine ⟨fun a w hA hS hd => by have x := hx hd 1; have y := hx hd 6; exact d_9 rfl (dv (f_9 rfl (b_9 x) (b_9 y)) hS (by show Value.bool _ = _; simp only [decide_eq_true o, decide_true, decide_false, Bool.not_true, Bool.not_false])), ?_⟩
   refine dq (fun a w hA hS hd => a_0 rfl (hq hd 7)) ?_
   refine dn 8 ?_
   refine dn 8 ?_
   refine dn 8 ?_
   refine dn 8 ?_
   refine dn 8 ?_
   refine dn 8 ?_
   refine dn 8 ?_
   refine dn 8 ?_
   refine dn 8 ?_
   refine dn 8 ?_
   refine dn 8 ?_
   trivial
  intro AC AR X z H; clear U J
  have Y := X.add (hz H 8); clear X
  have Z := Y.add (hz H 10); clear Y
  have b := Z.add (hz H 19); clear Z
  clear H
  refine s3 b fun AD O => ?_; clear b AC
  refine s1 O (b_3 rfl (O.ev rfl) (evc _ _)) fun AE P => ?_; clear O AD
  refine n1 ?_
  refine c_6 P rfl ?_
  refine b_7 ?_
  have c := P.as [] rfl; clear P
  refine a_5 ?_
  refine s1 c (a_1 rfl (evc _ _)) fun AO d => ?_; clear c AE
  refine n1 ?_
  refine c_8 ?_
  refine a_7 ?_
  refine a_9 d (.inl rfl) (a_2 d rfl (.tmp rfl)) ?_
  exact ⟨congrArg Value.bool (Eq.symm (by first | exact conv_n1 (by unfold tx; dsimp only; omega) | exact conv_n2 (by unfold tx; dsimp only; omega))), z.ext⟩
 skip
 have e := C.as [(3, (bptr N 0)), (2, (bptr K 0))] rfl; clear C
 refine g_6 mixed e J 20 [[], [0], [], [2], [3], [4], [5], [1, 6], [7], [8], [8, 9], [8], [8, 11], [8], [8, 13], [8, 14], [8, 15], [8, 12, 16], [8, 17], [8, 18]] [(Yd.val (bptr N 0)), (Yd.val (Value.int .i64 M)), (Yd.val (bptr K 2)), (Yd.val vr), (Yd.val (eptr vr (0 * 2))), (Yd.val (eptr vr (0 * 2 + 0))), (Yd.val (Value.int .i64 ((t.rows.getD 0 (0, 0)).1))), (Yd.val (Value.bool false)), (Yd.val (Value.bool false)), (Yd.val (bptr N 1)), (Yd.val (Value.int .i64 S)), (Yd.val (bptr K 2)), (Yd.val vr), (Yd.val (bptr K 2)), (Yd.val vr), (Yd.val (Value.int .i64 (t.rows.length : Int))), (Yd.val (Value.int .i64 ((t.rows.length : Int) - 1))), (Yd.val (eptr vr (((t.rows.length : Int) - 1).toNat * 2))), (Yd.val (eptr vr (((t.rows.length : Int) - 1).toNat * 2 + 0))), (Yd.val (Value.int .i64 ((t.rows.getD (((t.rows.length : Int) - 1).toNat) (0, 0)).1)))] (by decide +kernel) rfl rfl ?_ ?_
 ·skip
  refine dq (fun a w hA hS hd => a_4 rfl p_6 (hA.ev rfl)) ?_
  refine dq (fun a w hA hS hd => a_3 rfl ty_3 (hq hd 0) (hS.bk 0 rfl) rfl) ?_
  refine dq (fun a w hA hS hd => a_4 rfl j_4 (hA.ev rfl)) ?_
  refine dq (fun a w hA hS hd => a_3 rfl n_8 (hq hd 2) (hS.bk 1 rfl) rfl) ?_
  refine dq (fun a w hA hS hd => b_2 rfl k_8 j_0 (hq hd 3) (i := 0) (show _ = Value.int .i64 ((0 : Nat) : Int) from (evc _ _)) (hS.sk 2 rfl) (by decide) (by omega)) ?_
  refine dq (fun a w hA hS hd => e_6 rfl j_5 (hq hd 4) (hS.sk 2 rfl) (by rw [((hS.sk 2 rfl)).1]; omega)) ?_
  refine dq (fun a w hA hS hd => c_7 rfl ty_3 (hq hd 5) (hS.sk 2 rfl) (i_9 (by omega))) ?_
  refine ⟨fun a w hA hS hd => by have x := hx hd 1; have y := hx hd 6; exact d_9 rfl (dv (f_9 rfl (b_9 x) (b_9 y)) hS (by show Value.bool _ = _; simp only [decide_eq_false o, decide_true, decide_false, Bool.not_true, Bool.not_false])), ?_⟩
  refine dq (fun a w hA hS hd => a_0 rfl (hq hd 7)) ?_
  refine dy 8 (fun a w hA hS hd => a_4 rfl p_7 (hA.ev rfl)) ?_
  refine dy 8 (fun a w hA hS hd => a_3 rfl ty_3 (hq hd 9) (hS.bk 0 rfl) rfl) ?_
  refine dy 8 (fun a w hA hS hd => a_4 rfl j_4 (hA.ev rfl)) ?_
  refine dy 8 (fun a w hA hS hd => a_3 rfl n_8 (hq hd 11) (hS.bk 1 rfl) rfl) ?_
  refine dy 8 (fun a w hA hS hd => a_4 rfl j_4 (hA.ev rfl)) ?_
  refine dy 8 (fun a w hA hS hd => a_3 rfl n_8 (hq hd 13) (hS.bk 1 rfl) rfl) ?_
  refine dy 8 (fun a w hA hS hd => c_0 rfl k_8 (hq hd 14) (hS.sk 2 rfl)) ?_
  refine dy 8 (fun a w hA hS hd => g_1 rfl (hq hd 15) (evc _ _) (by omega) (by omega)) ?_
  refine dy 8 (fun a w hA hS hd => b_2 rfl k_8 j_0 (hq hd 12) (i := ((t.rows.length : Int) - 1).toNat) ((hq hd 16).trans (k_3 (by omega))) (hS.sk 2 rfl) (by decide) (by omega)) ?_
  refine dy 8 (fun a w hA hS hd => e_6 rfl j_5 (hq hd 17) (hS.sk 2 rfl) (by rw [((hS.sk 2 rfl)).1]; omega)) ?_
  refine dy 8 (fun a w hA hS hd => c_7 rfl ty_3 (hq hd 18) (hS.sk 2 rfl) (i_9 (by omega))) ?_
  trivial
 intro AF AS f B I; clear e J
 have g := f.add (hz I 8); clear f
 have h := g.add (hz I 10); clear g
 have D := h.add (hz I 19); clear h
 clear I
 refine s5 D (g_9 rfl (D.ev rfl) (D.ev rfl)) fun AG E => ?_; clear D AF
 refine s1 E (c_2 rfl (E.ev rfl) (E.ev rfl)) fun q A => ?_; clear E AG
 refine n1 ?_
 by_cases p : ((t.rows.getD (((t.rows.length : Int) - 1).toNat) (0, 0)).1) < S
 ·skip
  rw [decide_eq_true p] at A
  refine c_6 A rfl ?_
  refine b_7 ?_
  have j := A.as [] rfl; clear A
  refine a_5 ?_
  refine s1 j (a_1 rfl (evc _ _)) fun AP k => ?_; clear j q
  refine n1 ?_
  refine c_8 ?_
  refine a_7 ?_
  refine a_9 k (.inl rfl) (a_2 k rfl (.tmp rfl)) ?_
  exact ⟨congrArg Value.bool (Eq.symm (by first | exact conv_n1 (by unfold tx; dsimp only; omega) | exact conv_n2 (by unfold tx; dsimp only; omega))), B.ext⟩
 skip
 rw [decide_eq_false p] at A
 refine b_5 A rfl ?_
 refine d_1 ?_
 refine b_0 ?_
 refine m2 ?_
 refine s1 A (a_4 rfl fd_106_3 (A.ev rfl)) fun AH Q => ?_; clear A q
 refine s1 Q (a_3 rfl aa_8 (Q.ev rfl) (B.bk 1 rfl) rfl) fun AI F => ?_; clear Q AH
 refine s1 F (i_0 rfl ev0 (ev2 (F.ev rfl) (F.ev rfl))) fun AJ G => ?_; clear F AI
 refine s2 G (a_6 rfl en_69 (ev2 (G.ev rfl) (G.ev rfl)) (all_int t.brk _ 78 #[] #[(bptr N 0), (bptr K 0)] (fun i => brB t (M, S) (t.brk.getD i 0).toNat) _ (B.sk 3 rfl) (by omega) ⟨en_78, fun i hi W hW => convclo_at _ _ _ t _ _ _ _ W ((B.step hW).bk 0 rfl) ((B.step hW).bk 1 rfl) ((B.step hW).sk 2 rfl) ((B.step hW).sk 3 rfl) hrl (hV.brk _ (getD_mem' hi))⟩)) ?_
 rintro AK _ AT ⟨rfl, m⟩ R; have AA := B.step m; clear m G B AJ
 refine s1 R (a_1 rfl (R.ev rfl)) fun AQ l => ?_; clear R AK
 refine n1 ?_
 refine c_8 ?_
 refine a_9 l (.inl rfl) (a_2 l rfl (.tmp rfl)) ?_
 exact ⟨congrArg Value.bool (Eq.symm (conv_y (by unfold tx; dsimp only; omega) (by unfold tx; dsimp only; omega))), AA.ext⟩
end Go.Proofs.Ytohgladndklciaa

namespace Go.Proofs.Ytohgladndklciaa
open Go.RowKit Go.Shelf Go.Eng Go.Hard
theorem v_8 : fldK Try.prog 75 1 = some 1 := by kernel_rfl
theorem fd_46_4 : fldK Try.prog 46 4 = some 4 := by kernel_rfl
theorem upF_bd {n d : Int} (hn : -100000000000 ≤ n ∧ n ≤ 100000000000) (hd : 0 < d ∧ d ≤ 100000) : -100000000001 ≤ upF n d ∧ upF n d ≤ 100000000001 := by
 have := downF_bd (n := -n) (d := d) (by omega) hd
 unfold upF; unfold ac_3 at this; omega
end Go.Proofs.Ytohgladndklciaa

namespace Go.Hard
section
variable {n : Int} {t : TabD} {k : Nat}
theorem tabB_iff : tabB n t = true ↔ inB t.frm 0 (n - 1) = true ∧ inB t.dst 0 (n - 1) = true ∧ t.frm ≠ t.dst ∧ inB t.err 0 1000 = true ∧ 2 ≤ (t.rows.length : Int) ∧ (∀ i, i < t.rows.length → rowB (t.rows.getD i (0, 0)) = true) ∧ (∀ i, i < t.rows.length - 1 → aa_7 (ab_2 t) (t.rows.getD i (0, 0)) (t.rows.getD (i + 1) (0, 0)) = true) ∧ ∀ i, i < t.brk.length → brkB t i = true := by
  unfold tabB headB
  simp only [Bool.and_eq_true, Bool.not_eq_true', decide_eq_false_iff_not, decide_eq_true_eq, i_4, ne_eq, and_assoc]
theorem o_9 (h : inB t.frm 0 (n - 1) = false ∨ inB t.dst 0 (n - 1) = false ∨ t.frm = t.dst ∨ inB t.err 0 1000 = false ∨ (t.rows.length : Int) < 2) : tabB n t = false := by
  cases hb : tabB n t with
  | false => rfl
  | true =>
    have g := tabB_iff.1 hb
    rcases h with h | h | h | h | h
    · rw [h] at g; cases g.1
    · rw [h] at g; cases g.2.1
    · exact absurd h g.2.2.1
    · rw [h] at g; cases g.2.2.2.1
    · have := g.2.2.2.2.1; omega
theorem tab_row (hk : k < t.rows.length) (h : rowB (t.rows.getD k (0, 0)) = false) : tabB n t = false := by
  cases hb : tabB n t with
  | false => rfl
  | true => have g := (tabB_iff.1 hb).2.2.2.2.2.1 k hk; rw [h] at g; cases g
theorem v_3 (hk : k + 1 < t.rows.length) (h : aa_7 (ab_2 t) (t.rows.getD k (0, 0)) (t.rows.getD (k + 1) (0, 0)) = false) : tabB n t = false := by
  cases hb : tabB n t with
  | false => rfl
  | true => have g := (tabB_iff.1 hb).2.2.2.2.2.2.1 k (by omega); rw [h] at g; cases g
theorem tab_brk (hk : k < t.brk.length) (h : brkB t k = false) : tabB n t = false := by
  cases hb : tabB n t with
  | false => rfl
  | true => have g := (tabB_iff.1 hb).2.2.2.2.2.2.2 k hk; rw [h] at g; cases g
theorem r_3 {r : Bool} {a b : Int × Int} (h : ¬ a.1 < b.1 ∨ b.2 = a.2 ∨ decide (a.2 < b.2) ≠ r) : aa_7 r a b = false := by
  cases hb : aa_7 r a b with
  | false => rfl
  | true =>
    unfold aa_7 at hb
    simp only [Bool.and_eq_true, decide_eq_true_eq, Bool.not_eq_true', decide_eq_false_iff_not, beq_iff_eq] at hb
    rcases h with h | h | h
    · exact absurd hb.1.1 h
    · exact absurd h hb.1.2
    · exact absurd hb.2 h
theorem step_y {r : Bool} {a b : Int × Int} (h1 : a.1 < b.1) (h2 : ¬ b.2 = a.2) (h3 : decide (a.2 < b.2) = r) : aa_7 r a b = true := by
  unfold aa_7
  simp only [Bool.and_eq_true, decide_eq_true_eq, Bool.not_eq_true', decide_eq_false_iff_not, beq_iff_eq]
  exact ⟨⟨h1, h2⟩, h3⟩
theorem brk_y0 (h : inB (t.brk.getD 0 0) 0 ((t.rows.length : Int) - 2) = true) : brkB t 0 = true := by
  unfold brkB; rw [show ac_5 t 0 = -1 from rfl]; rw [h_4] at h ⊢; omega
theorem brk_y1 (h : inB (t.brk.getD (k + 1) 0) 0 ((t.rows.length : Int) - 2) = true) (h2 : t.brk.getD k 0 < t.brk.getD (k + 1) 0) : brkB t (k + 1) = true := by
  unfold brkB ac_5; rw [h_4] at h ⊢; dsimp only; omega
theorem brk_n {i : Nat} (hp : ∀ j, j < i → 0 ≤ t.brk.getD j 0) (h : inB (t.brk.getD i 0) 0 ((t.rows.length : Int) - 2) = false) : brkB t i = false := by
  cases hb : brkB t i with
  | false => rfl
  | true =>
    unfold brkB at hb
    rw [h_4] at hb
    have : inB (t.brk.getD i 0) 0 ((t.rows.length : Int) - 2) = true := by
      rw [h_4]
      cases i with
      | zero => rw [show ac_5 t 0 = -1 from rfl] at hb; omega
      | succ j => have := hp j (by omega); unfold ac_5 at hb; dsimp only at hb; omega
    rw [this] at h; cases h
theorem brk_n1 (h : ¬ t.brk.getD k 0 < t.brk.getD (k + 1) 0) : brkB t (k + 1) = false := by
  cases hb : brkB t (k + 1) with
  | false => rfl
  | true => unfold brkB ac_5 at hb; rw [h_4] at hb; dsimp only at hb; omega
end
end Go.Hard

namespace Go.Proofs.Ytohgladndklciaa
open Go.RowKit Go.Shelf Go.Eng Go.Hard
end Go.Proofs.Ytohgladndklciaa
