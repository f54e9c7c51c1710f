/-
  What a table of straight pieces makes of values: it rises or falls, and so do its ends.
  Tables as data; what they make of values and ranges; a narrower range is converted to a narrower one.
  Spans: the greatest ranges that all tables leave as they are; any order of cutting finds them.
  Books, machines, readings; the loop of passes ends at the widest spans.
  The spans are the widest; what holds of all solutions holds of them.
  What the laws say of spans: narrower, the same, free, in them.
  The errors of books and readings.
  How the functions find what a table makes of a value.
  Books as they lie in memory.
-/
import Derived.Test.YtohgladndklciaaEnga
import Derived.Test.YtohgladndklciaaProg
import Derived.Shelf.Abstract
set_option linter.unusedSimpArgs false
set_option linter.unusedVariables false
namespace Go.Hard
inductive Made (X Y : Nat → Int) (len : Nat) (B : Nat → Prop) (v lo hi : Int) : Prop
  | row (i : Nat) (hi' : i < len) (hx : X i = v) (h1 : lo = Y i) (h2 : hi = Y i)
  | piece (i : Nat) (hi' : i + 1 < len) (ha : X i < v) (hb : v < X (i + 1)) (hB : ¬ B i) (h1 : lo = Y i + ((v - X i) * (Y (i + 1) - Y i)) / (X (i + 1) - X i)) (h2 : hi = Y i + -(-((v - X i) * (Y (i + 1) - Y i)) / (X (i + 1) - X i)))
section
variable {X Y : Nat → Int} {len : Nat} {B : Nat → Prop}
theorem lt_of_step (hX : ∀ i, i + 1 < len → X i < X (i + 1)) : ∀ {i j : Nat}, i < j → j < len → X i < X j := by
  intro i j hij hj
  induction j with
  | zero => omega
  | succ j ih =>
    have := hX j hj
    rcases Nat.lt_succ_iff_lt_or_eq.1 hij with h | h
    · have := ih h (by omega); omega
    · subst h; exact this
theorem le_of_step (hX : ∀ i, i + 1 < len → X i < X (i + 1)) {i j : Nat} (hij : i ≤ j) (hj : j < len) : X i ≤ X j := by
  rcases Nat.eq_or_lt_of_le hij with h | h
  · subst h; exact Int.le_refl _
  · have := lt_of_step hX h hj; omega
theorem idx_of_lt (hX : ∀ i, i + 1 < len → X i < X (i + 1)) {i j : Nat} (hi : i < len) (h : X i < X j) : i < j := by
  rcases Nat.lt_or_ge i j with h1 | h1
  · exact h1
  · have := le_of_step hX h1 hi; omega
theorem made_neg {v lo hi : Int} (h : Made X Y len B v lo hi) : Made X (fun i => -Y i) len B v (-hi) (-lo) := by
  cases h with
  | row i hi' hx h1 h2 => exact .row i hi' hx (by rw [h2]) (by rw [h1])
  | piece i hi' ha hb hB h1 h2 =>
    have e : (v - X i) * (-Y (i + 1) - -Y i) = -((v - X i) * (Y (i + 1) - Y i)) := by rw [← Int.mul_neg]; congr 1; omega
    refine .piece i hi' ha hb hB ?_ ?_
    · rw [e, h2]; omega
    · rw [e, h1, Int.neg_neg]; omega
theorem div_bd {n d m : Int} (hd : 0 < d) (h0 : 0 ≤ n) (h1 : n ≤ m * d) : 0 ≤ n / d ∧ n / d ≤ m := by
  refine ⟨Int.ediv_nonneg h0 (Int.le_of_lt hd), ?_⟩
  have := Int.ediv_le_ediv hd h1
  rwa [Int.mul_ediv_cancel _ (by omega)] at this
theorem up_bd {n d m : Int} (hd : 0 < d) (h0 : 0 ≤ n) (h1 : n ≤ m * d) : 0 ≤ -(-n / d) ∧ -(-n / d) ≤ m ∧ n / d ≤ -(-n / d) := by
  have a1 : -n / d ≤ 0 := by
    have := Int.ediv_le_ediv hd (show -n ≤ 0 by omega)
    rwa [Int.zero_ediv] at this
  have a2 : -m ≤ -n / d := by
    have := Int.ediv_le_ediv hd (show -m * d ≤ -n by rw [Int.neg_mul]; omega)
    rwa [Int.mul_ediv_cancel _ (by omega)] at this
  have b1 := Int.mul_ediv_self_le (x := n) (k := d) (by omega)
  have b2 := Int.mul_ediv_self_le (x := -n) (k := d) (by omega)
  refine ⟨by omega, by omega, ?_⟩
  have : d * (n / d + -n / d) ≤ d * 0 := by rw [Int.mul_add]; omega
  have := Int.le_of_mul_le_mul_left this hd
  omega
theorem div_mono {n m d : Int} (hd : 0 < d) (h : n ≤ m) : n / d ≤ m / d ∧ -(-n / d) ≤ -(-m / d) := by
  refine ⟨Int.ediv_le_ediv hd h, ?_⟩
  have := Int.ediv_le_ediv hd (show -m ≤ -n by omega)
  omega
section rising
variable (hX : ∀ i, i + 1 < len → X i < X (i + 1)) (hY : ∀ i, i + 1 < len → Y i < Y (i + 1))
include hX hY
theorem piece_bd {i : Nat} {v : Int} (hi : i + 1 < len) (ha : X i < v) (hb : v < X (i + 1)) :
    Y i ≤ Y i + ((v - X i) * (Y (i + 1) - Y i)) / (X (i + 1) - X i) ∧ Y i + -(-((v - X i) * (Y (i + 1) - Y i)) / (X (i + 1) - X i)) ≤ Y (i + 1) ∧ Y i + ((v - X i) * (Y (i + 1) - Y i)) / (X (i + 1) - X i) ≤ Y i + -(-((v - X i) * (Y (i + 1) - Y i)) / (X (i + 1) - X i)) := by
  have h0 := hX i hi
  have h1 := hY i hi
  have hn : 0 ≤ (v - X i) * (Y (i + 1) - Y i) := Int.mul_nonneg (by omega) (by omega)
  have hm : (v - X i) * (Y (i + 1) - Y i) ≤ (Y (i + 1) - Y i) * (X (i + 1) - X i) := by
    rw [Int.mul_comm (Y (i + 1) - Y i)]
    exact Int.mul_le_mul_of_nonneg_right (by omega) (by omega)
  have a := div_bd (by omega) hn hm
  have b := up_bd (by omega) hn hm
  omega
theorem made_rise {u v l1 h1 l2 h2 : Int} (hu : Made X Y len B u l1 h1) (hv : Made X Y len B v l2 h2) (h : u ≤ v) : l1 ≤ l2 ∧ h1 ≤ h2 := by
  cases hu with
  | row i hi ex e1 e2 =>
    cases hv with
    | row j hj ey f1 f2 =>
      have hij : i ≤ j := by
        rcases Nat.lt_or_ge j i with g | g
        · have := lt_of_step hX g hi; omega
        · exact g
      have := le_of_step hY hij hj
      omega
    | piece j hj ha hb hB f1 f2 =>
      have hij : i ≤ j := by
        have : i < j + 1 := idx_of_lt hX hi (by omega)
        omega
      have := le_of_step hY hij (by omega)
      have := piece_bd hX hY hj ha hb
      omega
  | piece i hi ha hb hB e1 e2 =>
    have hbi := piece_bd hX hY hi ha hb
    cases hv with
    | row j hj ey f1 f2 =>
      have hij : i + 1 ≤ j := idx_of_lt hX (by omega) (by omega)
      have := le_of_step hY hij hj
      omega
    | piece j hj ha' hb' hB' f1 f2 =>
      have hbj := piece_bd hX hY hj ha' hb'
      have hij : i ≤ j := by
        have : i < j + 1 := idx_of_lt hX (by omega) (by omega)
        omega
      rcases Nat.eq_or_lt_of_le hij with g | g
      · subst g
        have h0 := hX i hi
        have h3 := hY i hi
        have := div_mono (d := X (i + 1) - X i) (by omega) (Int.mul_le_mul_of_nonneg_right (show u - X i ≤ v - X i by omega) (show 0 ≤ Y (i + 1) - Y i by omega))
        omega
      · have := le_of_step hY (show i + 1 ≤ j from g) (by omega)
        omega
theorem made_one {v l1 h1 l2 h2 : Int} (hu : Made X Y len B v l1 h1) (hv : Made X Y len B v l2 h2) : l1 = l2 ∧ h1 = h2 := by
  have a := made_rise hX hY hu hv (Int.le_refl _)
  have b := made_rise hX hY hv hu (Int.le_refl _)
  omega
end rising
theorem made_ex (hX : ∀ i, i + 1 < len → X i < X (i + 1)) {v : Int} (h0 : X 0 ≤ v) (h1 : v ≤ X (len - 1)) (hl : 0 < len) : (∃ lo hi, Made X Y len B v lo hi) ∨ ∃ i, i + 1 < len ∧ X i < v ∧ v < X (i + 1) ∧ B i := by
  have key : ∀ k, k < len → v ≤ X k → (∃ lo hi, Made X Y len B v lo hi) ∨ ∃ i, i + 1 < len ∧ X i < v ∧ v < X (i + 1) ∧ B i := by
    intro k
    induction k with
    | zero => intro hk hv; exact .inl ⟨_, _, .row 0 hk (by omega) rfl rfl⟩
    | succ k ih =>
      intro hk hv
      by_cases hv' : v ≤ X k
      · exact ih (by omega) hv'
      · by_cases he : v = X (k + 1)
        · exact .inl ⟨_, _, .row (k + 1) hk he.symm rfl rfl⟩
        · by_cases hB : B k
          · exact .inr ⟨k, hk, by omega, by omega, hB⟩
          · exact .inl ⟨_, _, .piece k hk (by omega) (by omega) hB rfl rfl⟩
  exact key (len - 1) (by omega) h1
end
structure Rows (X Y : Nat → Int) (len : Nat) : Prop where
  x : ∀ i, i + 1 < len → X i < X (i + 1)
  y : (∀ i, i + 1 < len → Y i < Y (i + 1)) ∨ ∀ i, i + 1 < len → Y (i + 1) < Y i
section
variable {X Y : Nat → Int} {len : Nat} {B : Nat → Prop} (h : Rows X Y len)
include h
theorem Rows.one {v l1 h1 l2 h2 : Int} (hu : Made X Y len B v l1 h1) (hv : Made X Y len B v l2 h2) : l1 = l2 ∧ h1 = h2 := by
  rcases h.y with hy | hy
  · exact made_one h.x hy hu hv
  · have := made_one (Y := fun i => -Y i) h.x (fun i hi => by have := hy i hi; omega) (made_neg hu) (made_neg hv); omega
theorem Rows.between {u v x l1 h1 l2 h2 l3 h3 : Int} (hu : Made X Y len B u l1 h1) (hv : Made X Y len B v l2 h2) (hx : Made X Y len B x l3 h3) (hux : u ≤ x) (hxv : x ≤ v) : min l1 l2 ≤ l3 ∧ h3 ≤ max h1 h2 := by
  rcases h.y with hy | hy
  · have a := made_rise h.x hy hu hx hux
    have b := made_rise h.x hy hx hv hxv
    omega
  · have hy' : ∀ i, i + 1 < len → (fun i => -Y i) i < (fun i => -Y i) (i + 1) := fun i hi => by have := hy i hi; show -Y i < -Y (i + 1); omega
    have a := made_rise h.x hy' (made_neg hu) (made_neg hx) hux
    have b := made_rise h.x hy' (made_neg hx) (made_neg hv) hxv
    omega
end
end Go.Hard

namespace Go.Hard
abbrev Rng := Int × Int
structure TabD where
  frm : Int
  dst : Int
  rows : List (Int × Int)
  brk : List Int
  err : Int
deriving DecidableEq
def tab0 : TabD := ⟨0, 0, [], [], 0⟩
def tx (t : TabD) (i : Nat) : Int := (t.rows.getD i (0, 0)).1
def ty (t : TabD) (i : Nat) : Int := (t.rows.getD i (0, 0)).2
structure TabV (n : Int) (t : TabD) : Prop where
  frm : 0 ≤ t.frm ∧ t.frm < n
  dst : 0 ≤ t.dst ∧ t.dst < n
  ne : t.frm ≠ t.dst
  err : 0 ≤ t.err ∧ t.err ≤ 1000
  len : 2 ≤ t.rows.length
  bnd : ∀ i, i < t.rows.length → (1 ≤ tx t i ∧ tx t i ≤ 100000) ∧ 1 ≤ ty t i ∧ ty t i ≤ 100000
  rows : Rows (tx t) (ty t) t.rows.length
  brk : ∀ b ∈ t.brk, 0 ≤ b ∧ b ≤ (t.rows.length : Int) - 2
def broken (t : TabD) (i : Nat) : Prop := (i : Int) ∈ t.brk
instance (t : TabD) (i : Nat) : Decidable (broken t i) := inferInstanceAs (Decidable (_ ∈ _))
def pieceN (t : TabD) (v : Int) (i : Nat) : Int := (v - tx t i) * (ty t (i + 1) - ty t i)
def pieceD (t : TabD) (i : Nat) : Int := tx t (i + 1) - tx t i
def pieceR (t : TabD) (v : Int) (i : Nat) : Rng := (ty t i + pieceN t v i / pieceD t i, ty t i + -(-pieceN t v i / pieceD t i))
def inPiece (t : TabD) (v : Int) (i : Nat) : Bool := decide (tx t i < v) && decide (v < tx t (i + 1)) && !decide (broken t i)
def atRow (t : TabD) (v : Int) (i : Nat) : Bool := decide (tx t i = v)
def madeF (t : TabD) (v : Int) : Option Rng :=
  match (List.range t.rows.length).find? (atRow t v) with
  | some i => some (ty t i, ty t i)
  | none => match (List.range (t.rows.length - 1)).find? (inPiece t v) with
    | some i => some (pieceR t v i)
    | none => none
abbrev MadeT (t : TabD) (v lo hi : Int) : Prop := Made (tx t) (ty t) t.rows.length (broken t) v lo hi
theorem made_is {t : TabD} {v : Int} {r : Rng} (h : madeF t v = some r) : MadeT t v r.1 r.2 := by
  unfold madeF at h
  split at h
  · rename_i i hf
    have hi := List.mem_range.1 (List.mem_of_find?_eq_some hf)
    have hx : atRow t v i = true := List.find?_some hf
    obtain rfl := Option.some.inj h
    exact .row i hi (of_decide_eq_true hx) rfl rfl
  · split at h
    · rename_i i hf
      have hi := List.mem_range.1 (List.mem_of_find?_eq_some hf)
      have hx := List.find?_some hf
      unfold inPiece at hx
      simp only [Bool.and_eq_true, decide_eq_true_eq, Bool.not_eq_true', decide_eq_false_iff_not] at hx
      obtain rfl := Option.some.inj h
      exact .piece i (by omega) hx.1.1 hx.1.2 hx.2 rfl rfl
    · cases h
theorem made_some {t : TabD} {v lo hi : Int} (h : MadeT t v lo hi) : ∃ r, madeF t v = some r := by
  unfold madeF
  split
  · exact ⟨_, rfl⟩
  · rename_i hn
    split
    · exact ⟨_, rfl⟩
    · rename_i hn2
      exfalso
      cases h with
      | row i hi hx h1 h2 => exact List.find?_eq_none.1 hn i (List.mem_range.2 hi) (decide_eq_true hx)
      | piece i hi ha hb hB h1 h2 =>
        refine List.find?_eq_none.1 hn2 i (List.mem_range.2 (by omega)) ?_
        unfold inPiece
        simp only [Bool.and_eq_true, decide_eq_true_eq, Bool.not_eq_true', decide_eq_false_iff_not]
        exact ⟨⟨ha, hb⟩, hB⟩
theorem made_iff {n : Int} {t : TabD} {v lo hi : Int} (hV : TabV n t) : madeF t v = some (lo, hi) ↔ MadeT t v lo hi := by
  constructor
  · intro h; exact made_is h
  · intro h
    obtain ⟨r, e⟩ := made_some h
    have := hV.rows.one (made_is e) h
    rw [e]; congr 1; exact Prod.ext this.1 this.2
def convB (t : TabD) (r : Rng) : Bool := decide (tx t 0 ≤ r.1) && decide (r.2 ≤ tx t (t.rows.length - 1)) && t.brk.all fun b => decide (r.2 ≤ tx t b.toNat) || decide (tx t (b.toNat + 1) ≤ r.1)
def endsF (t : TabD) (a b : Rng) : Rng := (min a.1 b.1 - t.err, max a.2 b.2 + t.err)
def convF (t : TabD) (r : Rng) : Rng := endsF t ((madeF t r.1).getD (0, 0)) ((madeF t r.2).getD (0, 0))
theorem convB_iff {t : TabD} {r : Rng} : convB t r = true ↔ tx t 0 ≤ r.1 ∧ r.2 ≤ tx t (t.rows.length - 1) ∧ ∀ b ∈ t.brk, r.2 ≤ tx t b.toNat ∨ tx t (b.toNat + 1) ≤ r.1 := by
  unfold convB
  simp only [Bool.and_eq_true, decide_eq_true_eq, List.all_eq_true, Bool.or_eq_true, and_assoc]
section
variable {n : Int} {t : TabD} {r r' : Rng}
theorem conv_made (hV : TabV n t) (hc : convB t r = true) {v : Int} (h1 : r.1 ≤ v) (h2 : v ≤ r.2) : ∃ lo hi, MadeT t v lo hi := by
  have hc := convB_iff.1 hc
  have hl := hV.len
  rcases made_ex (Y := ty t) (B := broken t) hV.rows.x (v := v) (by omega) (by omega) (by omega) with h | ⟨i, hi, ha, hb, hB⟩
  · exact h
  · have := hc.2.2 _ hB
    rw [show ((i : Nat) : Int).toNat = i from rfl] at this
    omega
theorem conv_narrow (hc : convB t r = true) (h1 : r.1 ≤ r'.1) (h2 : r'.2 ≤ r.2) : convB t r' = true := by
  have hc := convB_iff.1 hc
  refine convB_iff.2 ⟨by omega, by omega, fun b hb => ?_⟩
  have := hc.2.2 b hb
  omega
theorem conv_ends (hV : TabV n t) (hc : convB t r = true) (h : r.1 ≤ r.2) : ∃ l1 h1 l2 h2, MadeT t r.1 l1 h1 ∧ MadeT t r.2 l2 h2 ∧ convF t r = (min l1 l2 - t.err, max h1 h2 + t.err) := by
  obtain ⟨l1, h1, m1⟩ := conv_made hV hc (Int.le_refl _) h
  obtain ⟨l2, h2, m2⟩ := conv_made hV hc h (Int.le_refl _)
  refine ⟨l1, h1, l2, h2, m1, m2, ?_⟩
  unfold convF
  rw [(made_iff hV).2 m1, (made_iff hV).2 m2]; rfl
theorem conv_in (hV : TabV n t) (hc : convB t r = true) {v lo hi : Int} (h1 : r.1 ≤ v) (h2 : v ≤ r.2) (hm : MadeT t v lo hi) : (convF t r).1 ≤ lo - t.err ∧ hi + t.err ≤ (convF t r).2 := by
  obtain ⟨a, b, c, d, m1, m2, e⟩ := conv_ends hV hc (by omega)
  have := hV.rows.between m1 m2 hm h1 h2
  rw [e]; dsimp only; omega
theorem conv_sub (hV : TabV n t) (hc : convB t r = true) (h1 : r.1 ≤ r'.1) (h2 : r'.2 ≤ r.2) (hf : r'.1 ≤ r'.2) : convB t r' = true ∧ (convF t r).1 ≤ (convF t r').1 ∧ (convF t r').2 ≤ (convF t r).2 := by
  have hc' := conv_narrow hc h1 h2
  obtain ⟨a, b, c, d, m1, m2, e⟩ := conv_ends hV hc' hf
  have b1 := conv_in hV hc h1 (by omega) m1
  have b2 := conv_in hV hc (by omega) h2 m2
  refine ⟨hc', ?_⟩
  rw [e]; dsimp only; omega
end
end Go.Hard

namespace Go.Hard
abbrev Spans := List Rng
def rng0 : Rng := (0, 100000)
def at' (s : Spans) (i : Nat) : Rng := s.getD i (0, 0)
def cutR (a b : Rng) : Rng := (max a.1 b.1, min a.2 b.2)
def Sub (n : Nat) (s s' : Spans) : Prop := ∀ i, i < n → (at' s' i).1 ≤ (at' s i).1 ∧ (at' s i).2 ≤ (at' s' i).2
def Full (n : Nat) (s : Spans) : Prop := ∀ i, i < n → (at' s i).1 ≤ (at' s i).2
def Stable1 (t : TabD) (s : Spans) : Prop := convB t (at' s t.frm.toNat) = true → (convF t (at' s t.frm.toNat)).1 ≤ (at' s t.dst.toNat).1 ∧ (at' s t.dst.toNat).2 ≤ (convF t (at' s t.frm.toNat)).2
def Stable (ts : List TabD) (s : Spans) : Prop := ∀ t ∈ ts, Stable1 t s
structure Sol (n : Nat) (ts : List TabD) (s0 s : Spans) : Prop where
  sub : Sub n s s0
  full : Full n s
  stable : Stable ts s
def Widest (n : Nat) (ts : List TabD) (s0 : Spans) (r : Option Spans) : Prop :=
  match r with
  | some s => s.length = n ∧ Sol n ts s0 s ∧ ∀ s', Sol n ts s0 s' → Sub n s' s
  | none => ∀ s', ¬ Sol n ts s0 s'
theorem Sub.refl (n : Nat) (s : Spans) : Sub n s s := fun _ _ => ⟨Int.le_refl _, Int.le_refl _⟩
theorem Sub.trans {n : Nat} {a b c : Spans} (h1 : Sub n a b) (h2 : Sub n b c) : Sub n a c := fun i hi => by
  have := h1 i hi; have := h2 i hi; omega
theorem Sub.eq {n : Nat} {a b : Spans} (ha : a.length = n) (hb : b.length = n) (h1 : Sub n a b) (h2 : Sub n b a) : a = b := by
  refine List.ext_getElem (by omega) fun i hi hi' => ?_
  have x1 := h1 i (by omega)
  have x2 := h2 i (by omega)
  simp only [at', List.getD, List.getElem?_eq_getElem hi, List.getElem?_eq_getElem hi', Option.getD_some] at x1 x2
  exact Prod.ext (by omega) (by omega)
theorem Widest.first {n : Nat} {ts : List TabD} {s0 s1 : Spans} {r : Option Spans} (h : Widest n ts s0 r) (h1 : Sub n s0 s1) (h2 : Sub n s1 s0) : Widest n ts s1 r := by
  have key : ∀ s, Sol n ts s0 s ↔ Sol n ts s1 s := fun s => ⟨fun g => ⟨g.sub.trans h1, g.full, g.stable⟩, fun g => ⟨g.sub.trans h2, g.full, g.stable⟩⟩
  cases r with
  | none => exact fun s' g => h s' ((key s').2 g)
  | some s => exact ⟨h.1, (key s).1 h.2.1, fun s' g => h.2.2 s' ((key s').2 g)⟩
def stepF (t : TabD) (s : Spans) : Spans := if convB t (at' s t.frm.toNat) then s.set t.dst.toNat (cutR (at' s t.dst.toNat) (convF t (at' s t.frm.toNat))) else s
theorem at_set {s : Spans} {i j : Nat} {r : Rng} (hi : i < s.length) : at' (s.set i r) j = if i = j then r else at' s j := by
  unfold at'
  by_cases h : i = j
  · subst h; rw [if_pos rfl]; simp [List.getD, hi]
  · rw [if_neg h]; simp [List.getD, h]
theorem step_len (t : TabD) (s : Spans) : (stepF t s).length = s.length := by
  unfold stepF; split
  · exact List.length_set
  · rfl
section
variable {n : Nat} {t : TabD} {s s' s0 : Spans} {ts : List TabD}
theorem step_le (hV : TabV n t) (hl : n ≤ s.length) : Sub n (stepF t s) s := by
  unfold stepF
  split
  · intro i hi
    have hd := hV.dst
    rw [at_set (by omega)]
    split
    · rename_i e; rw [e]; dsimp only [cutR]; omega
    · exact ⟨Int.le_refl _, Int.le_refl _⟩
  · exact Sub.refl n s
theorem step_ub (hV : TabV n t) (hl : n ≤ s.length) (hf : Full n s') (hs : Stable1 t s') (h : Sub n s' s) : Sub n s' (stepF t s) := by
  unfold stepF
  split
  · rename_i hc
    have hd := hV.dst
    have hr := hV.frm
    have hfr := h t.frm.toNat (by omega)
    have hff := hf t.frm.toNat (by omega)
    have hk := conv_sub hV hc hfr.1 hfr.2 hff
    have hst := hs hk.1
    intro i hi
    rw [at_set (by omega)]
    have hi' := h i hi
    split
    · rename_i e
      subst e
      dsimp only [cutR]
      omega
    · exact hi'
  · exact h
theorem step_same (hV : TabV n t) (hl : n ≤ s.length) (h : Sub n s (stepF t s)) : Stable1 t s := by
  intro hc
  have hd := hV.dst
  have := h t.dst.toNat (by omega)
  unfold stepF at this
  rw [if_pos hc, at_set (by omega), if_pos rfl] at this
  dsimp only [cutR] at this
  omega
structure Ub (n : Nat) (ts : List TabD) (s0 s : Spans) : Prop where
  sub : Sub n s s0
  all : ∀ s', Sol n ts s0 s' → Sub n s' s
theorem Ub.start : Ub n ts s0 s0 := ⟨Sub.refl n s0, fun _ h => h.sub⟩
theorem Ub.step (h : Ub n ts s0 s) (hV : TabV n t) (ht : t ∈ ts) (hl : n ≤ s.length) : Ub n ts s0 (stepF t s) :=
  ⟨(step_le hV hl).trans h.sub, fun s' g => step_ub hV hl g.full (g.stable t ht) (h.all s' g)⟩
theorem Ub.none {i : Nat} (h : Ub n ts s0 s) (hi : i < n) (he : (at' s i).2 < (at' s i).1) : Widest n ts s0 none := fun s' g => by
  have := h.all s' g i hi
  have := g.full i hi
  omega
theorem at_take {i : Nat} (hi : i < n) : at' (s.take n) i = at' s i := by
  unfold at'; simp [List.getD, List.getElem?_take, hi]
theorem Ub.some (h : Ub n ts s0 s) (hl : n ≤ s.length) (hf : Full n s) (hV : ∀ t ∈ ts, TabV n t) (hs : Stable ts s) : Widest n ts s0 (some (s.take n)) := by
  have e1 : Sub n (s.take n) s := fun i hi => by rw [at_take hi]; exact ⟨Int.le_refl _, Int.le_refl _⟩
  have e2 : Sub n s (s.take n) := fun i hi => by rw [at_take hi]; exact ⟨Int.le_refl _, Int.le_refl _⟩
  refine ⟨by rw [List.length_take]; omega, ⟨e1.trans h.sub, fun i hi => by rw [at_take hi]; exact hf i hi, fun t ht => ?_⟩, fun s' g => (h.all s' g).trans e2⟩
  have hv := hV t ht
  have h1 := hv.frm
  have h2 := hv.dst
  unfold Stable1
  rw [at_take (show t.frm.toNat < n by omega), at_take (show t.dst.toNat < n by omega)]
  exact hs t ht
end
def goS (x : Spans × Bool) (t : TabD) : Spans × Bool :=
  if x.2 then x else if (at' x.1 t.dst.toNat).2 < (at' x.1 t.dst.toNat).1 then (x.1, true) else (stepF t x.1, false)
def passF (ts : List TabD) (s : Spans) : Spans × Bool := ts.foldl goS (s, false)
theorem go_stop : ∀ (b : List TabD) (s : Spans), b.foldl goS (s, true) = (s, true)
  | [], _ => rfl
  | t :: b, s => by rw [List.foldl_cons]; exact go_stop b s
theorem pass_len : ∀ (ts : List TabD) (x : Spans × Bool), (ts.foldl goS x).1.length = x.1.length
  | [], _ => rfl
  | t :: ts, x => by
    rw [List.foldl_cons, pass_len ts]
    unfold goS; split
    · rfl
    · split
      · rfl
      · exact step_len _ _
section
variable {n : Nat} {s0 : Spans} {all : List TabD}
theorem pass_le : ∀ (ts : List TabD) (x : Spans × Bool), (∀ t ∈ ts, TabV n t) → n ≤ x.1.length → Sub n (ts.foldl goS x).1 x.1
  | [], x, _, _ => Sub.refl n x.1
  | t :: ts, x, hV, hl => by
    rw [List.foldl_cons]
    have h1 : Sub n (goS x t).1 x.1 ∧ (goS x t).1.length = x.1.length := by
      unfold goS; split
      · exact ⟨Sub.refl _ _, rfl⟩
      · split
        · exact ⟨Sub.refl _ _, rfl⟩
        · exact ⟨step_le (hV t (List.mem_cons_self ..)) hl, step_len _ _⟩
    exact (pass_le ts _ (fun t ht => hV t (List.mem_cons_of_mem _ ht)) (by omega)).trans h1.1
theorem pass_ub : ∀ (ts : List TabD) (x : Spans × Bool), (∀ t ∈ ts, TabV n t ∧ t ∈ all) → n ≤ x.1.length → Ub n all s0 x.1 → Ub n all s0 (ts.foldl goS x).1
  | [], _, _, _, h => h
  | t :: ts, x, hV, hl, h => by
    rw [List.foldl_cons]
    have ht := hV t (List.mem_cons_self ..)
    have h1 : Ub n all s0 (goS x t).1 ∧ (goS x t).1.length = x.1.length := by
      unfold goS; split
      · exact ⟨h, rfl⟩
      · split
        · exact ⟨h, rfl⟩
        · exact ⟨h.step ht.1 ht.2 hl, step_len _ _⟩
    exact pass_ub ts _ (fun t ht => hV t (List.mem_cons_of_mem _ ht)) (by omega) h1.1
theorem pass_same : ∀ (ts : List TabD) (s : Spans), (∀ t ∈ ts, TabV n t) → n ≤ s.length → Full n s → Sub n s (ts.foldl goS (s, false)).1 → ∀ t ∈ ts, Stable1 t s
  | [], _, _, _, _, _, t, ht => by cases ht
  | u :: ts, s, hV, hl, hf, h, t, ht => by
    rw [List.foldl_cons] at h
    have hu := hV u (List.mem_cons_self ..)
    have hd := hu.dst
    have hne : ¬ (at' s u.dst.toNat).2 < (at' s u.dst.toNat).1 := by have := hf u.dst.toNat (by omega); omega
    have hg : goS (s, false) u = (stepF u s, false) := by
      unfold goS; rw [if_neg (by simp), if_neg hne]
    rw [hg] at h
    have hle := pass_le ts (stepF u s, false) (fun t ht => hV t (List.mem_cons_of_mem _ ht)) (by show n ≤ (stepF u s).length; rw [step_len]; exact hl)
    have hs : Sub n s (stepF u s) := h.trans hle
    have hst := step_same hu hl hs
    rcases List.mem_cons.1 ht with rfl | ht
    · exact hst
    · have hsl := step_le hu hl
      have hst' : ∀ t ∈ ts, Stable1 t (stepF u s) := pass_same ts (stepF u s) (fun t ht => hV t (List.mem_cons_of_mem _ ht)) (by rw [step_len]; exact hl) (fun i hi => by have := hf i hi; have := hs i hi; omega) (by
        refine Sub.trans hsl h)
      have hv := hV t (List.mem_cons_of_mem _ ht)
      have := hst' t ht
      have q1 := hv.frm
      have q2 := hv.dst
      have eq : ∀ i, i < n → at' (stepF u s) i = at' s i := fun i hi => by
        have a := hs i hi; have b := hsl i hi
        exact Prod.ext (by omega) (by omega)
      unfold Stable1 at this ⊢
      rwa [eq _ (show t.frm.toNat < n by omega), eq _ (show t.dst.toNat < n by omega)] at this
end
end Go.Hard

namespace Go.Hard
theorem step_out {n : Nat} {t : TabD} {s : Spans} {j : Nat} (hV : TabV n t) (hj : n ≤ j) : at' (stepF t s) j = at' s j := by
  unfold stepF
  split
  · have := hV.dst
    unfold at'
    have hne : t.dst.toNat ≠ j := by omega
    simp [List.getD, hne]
  · rfl
theorem pass_out {n : Nat} {j : Nat} (hj : n ≤ j) : ∀ (ts : List TabD) (x : Spans × Bool), (∀ t ∈ ts, TabV n t) → at' (ts.foldl goS x).1 j = at' x.1 j
  | [], _, _ => rfl
  | t :: ts, x, hV => by
    rw [List.foldl_cons, pass_out hj ts _ (fun t ht => hV t (List.mem_cons_of_mem _ ht))]
    unfold goS; split
    · rfl
    · split
      · rfl
      · exact step_out (hV t (List.mem_cons_self ..)) hj
def wide (r : Rng) : Nat := (r.2 - r.1).toNat
def width (s : Spans) : Nat := wide (at' s 0) + wide (at' s 1) + wide (at' s 2) + wide (at' s 3)
def fullB (n : Nat) (s : Spans) : Bool := (List.range n).all fun i => decide ((at' s i).1 ≤ (at' s i).2)
theorem full_iff {n : Nat} {s : Spans} : fullB n s = true ↔ Full n s := by
  unfold fullB Full
  simp only [List.all_eq_true, List.mem_range, decide_eq_true_eq]
theorem wide_le {r r' : Rng} (h1 : r.1 ≤ r'.1) (h2 : r'.2 ≤ r.2) : wide r' ≤ wide r := by unfold wide; omega
theorem wide_lt {r r' : Rng} (h1 : r.1 ≤ r'.1) (h2 : r'.2 ≤ r.2) (hf : r'.1 ≤ r'.2) (hn : r' ≠ r) : wide r' < wide r := by
  unfold wide
  have : ¬ (r'.1 = r.1 ∧ r'.2 = r.2) := fun h => hn (Prod.ext h.1 h.2)
  omega
theorem width_lt {n : Nat} {x s : Spans} (hn : n ≤ 4) (hx : x.length = 4) (hs : s.length = 4) (hle : Sub n x s) (hout : ∀ j, n ≤ j → at' x j = at' s j) (hf : Full n x) (hne : x ≠ s) : width x < width s := by
  have each : ∀ i, wide (at' x i) ≤ wide (at' s i) ∧ (at' x i ≠ at' s i → wide (at' x i) < wide (at' s i)) := fun i => by
    by_cases hi : i < n
    · have := hle i hi
      exact ⟨wide_le this.1 this.2, fun h => wide_lt this.1 this.2 (hf i hi) h⟩
    · rw [hout i (by omega)]; exact ⟨Nat.le_refl _, fun h => absurd rfl h⟩
  have hex : at' x 0 ≠ at' s 0 ∨ at' x 1 ≠ at' s 1 ∨ at' x 2 ≠ at' s 2 ∨ at' x 3 ≠ at' s 3 := by
    rcases Decidable.em (at' x 0 = at' s 0) with h0 | h0
    · rcases Decidable.em (at' x 1 = at' s 1) with h1 | h1
      · rcases Decidable.em (at' x 2 = at' s 2) with h2 | h2
        · rcases Decidable.em (at' x 3 = at' s 3) with h3 | h3
          · refine absurd (List.ext_getElem (by omega) fun i hi hi' => ?_) hne
            have key : at' x i = at' s i := by
              rw [hx] at hi
              match i, hi with
              | 0, _ => exact h0
              | 1, _ => exact h1
              | 2, _ => exact h2
              | 3, _ => exact h3
            simpa only [at', List.getD, List.getElem?_eq_getElem hi, List.getElem?_eq_getElem hi', Option.getD_some] using key
          · exact .inr (.inr (.inr h3))
        · exact .inr (.inr (.inl h2))
      · exact .inr (.inl h1)
    · exact .inl h0
  have e0 := each 0; have e1 := each 1; have e2 := each 2; have e3 := each 3
  unfold width
  rcases hex with h | h | h | h
  · have := e0.2 h; omega
  · have := e1.2 h; omega
  · have := e2.2 h; omega
  · have := e3.2 h; omega
def spansK (n : Nat) (ts : List TabD) : Nat → Spans → Option Spans
  | 0, _ => none
  | k + 1, s => if fullB n (passF ts s).1 then (if (passF ts s).1 = s then some (s.take n) else spansK n ts k (passF ts s).1) else none
structure Loop (n : Nat) (ts : List TabD) (s0 s : Spans) : Prop where
  len : s.length = 4
  full : Full n s
  ub : Ub n ts s0 s
section
variable {n : Nat} {ts all : List TabD} {s0 s : Spans}
theorem Loop.pass (h : Loop n all s0 s) (hn : n ≤ 4) (hV : ∀ t ∈ ts, TabV n t ∧ t ∈ all) : (passF ts s).1.length = 4 ∧ Ub n all s0 (passF ts s).1 ∧ Sub n (passF ts s).1 s ∧ ∀ j, n ≤ j → at' (passF ts s).1 j = at' s j :=
  ⟨by rw [passF, pass_len]; exact h.len, pass_ub ts (s, false) hV (by show n ≤ s.length; rw [h.len]; exact hn) h.ub, pass_le ts (s, false) (fun t ht => (hV t ht).1) (by show n ≤ s.length; rw [h.len]; exact hn), fun _ hj => pass_out hj ts (s, false) fun t ht => (hV t ht).1⟩
theorem Loop.next (h : Loop n all s0 s) (hn : n ≤ 4) (hV : ∀ t ∈ ts, TabV n t ∧ t ∈ all) (hf : Full n (passF ts s).1) (hne : (passF ts s).1 ≠ s) : Loop n all s0 (passF ts s).1 ∧ width (passF ts s).1 < width s := by
  have g := h.pass hn hV
  exact ⟨⟨g.1, hf, g.2.1⟩, width_lt hn g.1 h.len g.2.2.1 g.2.2.2 hf hne⟩
theorem Loop.done (h : Loop n all s0 s) (hn : n ≤ 4) (hV : ∀ t ∈ ts, TabV n t ∧ t ∈ all) (ha : ∀ t ∈ all, t ∈ ts) (he : (passF ts s).1 = s) : Widest n all s0 (some (s.take n)) := by
  have hst := pass_same (n := n) ts s (fun t ht => (hV t ht).1) (by rw [h.len]; exact hn) h.full (by
    show Sub n s (passF ts s).1
    rw [he]; exact Sub.refl n s)
  exact h.ub.some (by rw [h.len]; exact hn) h.full (fun t ht => (hV t (ha t ht)).1) fun t ht => hst t (ha t ht)
end
structure MacD where
  scale : Int
  blocks : List (Int × Int × Int)
deriving DecidableEq
def mac0 : MacD := ⟨0, []⟩
structure BookD where
  scales : Int
  tabs : List TabD
  macs : List MacD
def biasU (bl : List (Int × Int × Int)) : Nat → Rng
  | 0 => (-100000, 100000)
  | k + 1 => cutR (biasU bl k) ((bl.getD k (0, 0, 0)).2.2 - (bl.getD k (0, 0, 0)).2.1, (bl.getD k (0, 0, 0)).2.2 - (bl.getD k (0, 0, 0)).1)
def biasF (m : MacD) : Rng := biasU m.blocks m.blocks.length
def offB (m : MacD) : Bool := decide ((biasF m).2 < (biasF m).1)
structure MacV (n : Int) (m : MacD) : Prop where
  scale : 0 ≤ m.scale ∧ m.scale < n
  blocks : ∀ i, i < m.blocks.length → (0 ≤ (m.blocks.getD i (0, 0, 0)).1 ∧ (m.blocks.getD i (0, 0, 0)).1 ≤ (m.blocks.getD i (0, 0, 0)).2.1 ∧ (m.blocks.getD i (0, 0, 0)).2.1 ≤ 100000) ∧ 0 ≤ (m.blocks.getD i (0, 0, 0)).2.2 ∧ (m.blocks.getD i (0, 0, 0)).2.2 ≤ 100000
structure BookV (b : BookD) : Prop where
  scales : 1 ≤ b.scales ∧ b.scales ≤ 4
  tlen : b.tabs.length ≤ 6
  mlen : b.macs.length ≤ 6
  rows : ∀ t ∈ b.tabs, t.rows.length ≤ 8
  blks : ∀ m ∈ b.macs, m.blocks.length ≤ 5
  tabs : ∀ t ∈ b.tabs, TabV b.scales t
  macs : ∀ m ∈ b.macs, MacV b.scales m
def startU (b : BookD) (l : List (Int × Int)) (s : Spans) : Nat → Spans
  | 0 => s
  | k + 1 => (startU b l s k).set (b.macs.getD (l.getD k (0, 0)).1.toNat mac0).scale.toNat (cutR (at' (startU b l s k) (b.macs.getD (l.getD k (0, 0)).1.toNat mac0).scale.toNat) ((l.getD k (0, 0)).2 - (biasF (b.macs.getD (l.getD k (0, 0)).1.toNat mac0)).2, (l.getD k (0, 0)).2 - (biasF (b.macs.getD (l.getD k (0, 0)).1.toNat mac0)).1))
def free4 : Spans := [rng0, rng0, rng0, rng0]
def startF (b : BookD) (l : List (Int × Int)) : Spans := startU b l free4 l.length
def orderF (n : Nat) (ts : List TabD) : List TabD := (List.range n).flatMap fun (to : Nat) => (List.range n).flatMap fun (frm : Nat) => ts.filter fun t => decide (t.frm = (frm : Int)) && decide (t.dst = (to : Int))
theorem mem_order {n : Nat} {ts : List TabD} {t : TabD} : t ∈ orderF n ts → t ∈ ts := by
  unfold orderF
  intro h
  obtain ⟨a, _, h⟩ := List.mem_flatMap.1 h
  obtain ⟨b, _, h⟩ := List.mem_flatMap.1 h
  exact (List.mem_filter.1 h).1
def spansF (b : BookD) (l : List (Int × Int)) : Option Spans :=
  if fullB b.scales.toNat (startF b l) then spansK b.scales.toNat (orderF b.scales.toNat b.tabs) 400001 (startF b l) else none
end Go.Hard

namespace Go.Hard
structure ReadV (b : BookD) (l : List (Int × Int)) : Prop where
  len : l.length ≤ 8
  mac : ∀ i, i < l.length → 0 ≤ (l.getD i (0, 0)).1 ∧ (l.getD i (0, 0)).1 < b.macs.length
  read : ∀ i, i < l.length → 0 ≤ (l.getD i (0, 0)).2 ∧ (l.getD i (0, 0)).2 ≤ 100000
  off : ∀ i, i < l.length → offB (b.macs.getD (l.getD i (0, 0)).1.toNat mac0) = false
theorem getD_mem' {α : Type} {l : List α} {i : Nat} {d : α} (h : i < l.length) : l.getD i d ∈ l := by
  simp only [List.getD, List.getElem?_eq_getElem h, Option.getD_some]; exact List.getElem_mem h
theorem start_len (b : BookD) (l : List (Int × Int)) (s : Spans) : ∀ k, (startU b l s k).length = s.length
  | 0 => rfl
  | k + 1 => by rw [startU, List.length_set]; exact start_len b l s k
section
variable {b : BookD} {l : List (Int × Int)} {s : Spans}
def scaleOf (b : BookD) (l : List (Int × Int)) (k : Nat) : Nat := (b.macs.getD (l.getD k (0, 0)).1.toNat mac0).scale.toNat
def rangeOf (b : BookD) (l : List (Int × Int)) (k : Nat) : Rng := ((l.getD k (0, 0)).2 - (biasF (b.macs.getD (l.getD k (0, 0)).1.toNat mac0)).2, (l.getD k (0, 0)).2 - (biasF (b.macs.getD (l.getD k (0, 0)).1.toNat mac0)).1)
theorem startU_succ (k : Nat) : startU b l s (k + 1) = (startU b l s k).set (scaleOf b l k) (cutR (at' (startU b l s k) (scaleOf b l k)) (rangeOf b l k)) := rfl
theorem ReadV.macV (hb : BookV b) (hl : ReadV b l) {k : Nat} (hk : k < l.length) : MacV b.scales (b.macs.getD (l.getD k (0, 0)).1.toNat mac0) := by
  have := hl.mac k hk
  exact hb.macs _ (getD_mem' (by omega))
theorem scale_lt (hb : BookV b) (hl : ReadV b l) {k : Nat} (hk : k < l.length) : scaleOf b l k < b.scales.toNat := by
  have := (hl.macV hb hk).scale
  unfold scaleOf; omega
theorem start_iff (hb : BookV b) (hl : ReadV b l) {n : Nat} (hn : n = b.scales.toNat) (hs : n ≤ s.length) {s' : Spans} : ∀ k, k ≤ l.length → (Sub n s' (startU b l s k) ↔ Sub n s' s ∧ ∀ j, j < k → (rangeOf b l j).1 ≤ (at' s' (scaleOf b l j)).1 ∧ (at' s' (scaleOf b l j)).2 ≤ (rangeOf b l j).2)
  | 0, _ => ⟨fun h => ⟨h, fun j hj => absurd hj (Nat.not_lt_zero _)⟩, fun h => h.1⟩
  | k + 1, hk => by
    have ih := start_iff hb hl hn hs (s' := s') k (by omega)
    have hsc := scale_lt hb hl (k := k) (by omega)
    rw [startU_succ]
    have hlen := start_len b l s k
    constructor
    · intro h
      have h1 : Sub n s' (startU b l s k) := fun i hi => by
        have := h i hi
        rw [at_set (by omega)] at this
        split at this
        · rename_i e; subst e; dsimp only [cutR] at this; omega
        · exact this
      have h2 := ih.1 h1
      refine ⟨h2.1, fun j hj => ?_⟩
      rcases Nat.lt_succ_iff_lt_or_eq.1 hj with g | g
      · exact h2.2 j g
      · subst g
        have := h (scaleOf b l j) (by omega)
        rw [at_set (by omega), if_pos rfl] at this
        dsimp only [cutR] at this
        omega
    · rintro ⟨h1, h2⟩ i hi
      have h3 := ih.2 ⟨h1, fun j hj => h2 j (by omega)⟩
      rw [at_set (by omega)]
      split
      · rename_i e
        subst e
        have a := h3 _ hi
        have c := h2 k (by omega)
        dsimp only [cutR]
        omega
      · exact h3 i hi
theorem start_sub (hb : BookV b) (hl : ReadV b l) {n : Nat} (hn : n = b.scales.toNat) (hs : n ≤ s.length) (k : Nat) (hk : k ≤ l.length) : Sub n (startU b l s k) s := ((start_iff hb hl hn hs k hk).1 (Sub.refl _ _)).1
theorem wide_free {n : Nat} {s : Spans} (hn : n ≤ 4) (hs : Sub n s free4) (hout : ∀ j, n ≤ j → at' s j = at' free4 j) : width s ≤ 400000 := by
  have each : ∀ i, i < 4 → wide (at' s i) ≤ 100000 := fun i hi => by
    have hr : at' free4 i = rng0 := by
      match i, hi with
      | 0, _ => rfl
      | 1, _ => rfl
      | 2, _ => rfl
      | 3, _ => rfl
    by_cases h : i < n
    · have := hs i h
      rw [hr] at this
      have := wide_le this.1 this.2
      exact this
    · rw [hout i (by omega), hr]; exact Nat.le_refl _
  have := each 0 (by omega); have := each 1 (by omega); have := each 2 (by omega); have := each 3 (by omega)
  unfold width; omega
theorem start_out (hb : BookV b) (hl : ReadV b l) {j : Nat} (hj : b.scales.toNat ≤ j) : ∀ k, k ≤ l.length → at' (startU b l s k) j = at' s j
  | 0, _ => rfl
  | k + 1, hk => by
    have := scale_lt hb hl (k := k) (by omega)
    rw [startU_succ, ← start_out hb hl hj k (by omega)]
    unfold at'
    have hne : scaleOf b l k ≠ j := by omega
    simp [List.getD, hne]
theorem BookV.four (hb : BookV b) : b.scales.toNat ≤ 4 := by have := hb.scales; omega
theorem BookV.natV (hb : BookV b) : ∀ t ∈ b.tabs, TabV (b.scales.toNat : Nat) t := fun t ht => by
  have := hb.scales
  rw [show ((b.scales.toNat : Nat) : Int) = b.scales by omega]
  exact hb.tabs t ht
theorem BookV.orderV (hb : BookV b) : ∀ t ∈ orderF b.scales.toNat b.tabs, TabV (b.scales.toNat : Nat) t ∧ t ∈ b.tabs := fun t ht => ⟨hb.natV t (mem_order ht), mem_order ht⟩
theorem loop_start (hb : BookV b) (hl : ReadV b l) (hf : Full b.scales.toNat (startF b l)) : Loop b.scales.toNat b.tabs (startF b l) (startF b l) :=
  ⟨start_len b l free4 _, hf, Ub.start⟩
theorem start_width (hb : BookV b) (hl : ReadV b l) : width (startF b l) ≤ 400000 :=
  wide_free hb.four (start_sub hb hl rfl (by have := hb.four; exact this) _ (Nat.le_refl _)) fun _ hj => start_out hb hl hj _ (Nat.le_refl _)
end
end Go.Hard

namespace Go.Hard
section
variable {n : Nat} {ts ts' : List TabD} {s0 s0' : Spans} {r r' : Option Spans}
theorem Widest.has {s : Spans} (h : Widest n ts s0 r) (g : Sol n ts s0 s) : ∃ s', r = some s' ∧ s'.length = n ∧ Sub n s s' := by
 cases r with
 | none => exact absurd g (h s)
 | some s' => exact ⟨s', rfl, h.1, h.2.2 s g⟩
end
end Go.Hard

namespace Go.Hard
def inB (n lo hi : Int) : Bool := decide (lo ≤ n) && decide (n ≤ hi)
theorem inB_iff {n lo hi : Int} : inB n lo hi = true ↔ lo ≤ n ∧ n ≤ hi := by unfold inB; simp only [Bool.and_eq_true, decide_eq_true_eq]
def allI (n : Nat) (p : Nat → Bool) : Bool := (List.range n).all p
theorem allI_iff {n : Nat} {p : Nat → Bool} : allI n p = true ↔ ∀ i, i < n → p i = true := by
  unfold allI; simp only [List.all_eq_true, List.mem_range]
theorem allI_no {n k : Nat} {p : Nat → Bool} (hk : k < n) (h : p k = false) : allI n p = false := by
  cases hb : allI n p with
  | false => rfl
  | true => have := allI_iff.1 hb k hk; rw [h] at this; cases this
theorem allI_list {α : Type} {l : List α} {d : α} {p : α → Bool} : allI l.length (fun i => p (l.getD i d)) = true ↔ ∀ x ∈ l, p x = true := by
  rw [allI_iff]
  constructor
  · intro h x hx
    obtain ⟨i, hi, e⟩ := List.getElem_of_mem hx
    have := h i hi
    simp only [List.getD, List.getElem?_eq_getElem hi, Option.getD_some] at this
    rwa [e] at this
  · intro h i hi; exact h _ (getD_mem' hi)
def rowB (r : Int × Int) : Bool := inB r.1 1 100000 && inB r.2 1 100000
def risesB (t : TabD) : Bool := decide (ty t 0 < ty t 1)
def stepB (rises : Bool) (a b : Int × Int) : Bool := decide (a.1 < b.1) && !decide (b.2 = a.2) && (decide (a.2 < b.2) == rises)
def lastU (t : TabD) (i : Nat) : Int := match i with
  | 0 => -1
  | k + 1 => t.brk.getD k 0
def brkB (t : TabD) (i : Nat) : Bool := inB (t.brk.getD i 0) (lastU t i + 1) ((t.rows.length : Int) - 2)
def headB (n : Int) (t : TabD) : Bool := inB t.frm 0 (n - 1) && inB t.dst 0 (n - 1) && !decide (t.frm = t.dst) && inB t.err 0 1000 && decide (2 ≤ (t.rows.length : Int)) && allI t.rows.length fun i => rowB (t.rows.getD i (0, 0))
def tabB (n : Int) (t : TabD) : Bool := headB n t && (allI (t.rows.length - 1) fun i => stepB (risesB t) (t.rows.getD i (0, 0)) (t.rows.getD (i + 1) (0, 0))) && allI t.brk.length (brkB t)
def spanB (r : Rng) : Bool := inB r.1 0 100000 && inB r.2 0 100000 && decide (r.1 ≤ r.2)
def blkB (x : Int × Int × Int) : Bool := spanB (x.1, x.2.1) && inB x.2.2 0 100000
def macB (n : Int) (m : MacD) : Bool := inB m.scale 0 (n - 1) && allI m.blocks.length fun i => blkB (m.blocks.getD i (0, 0, 0))
def checkF (b : BookD) : Int :=
  if 6 < b.tabs.length ∨ 6 < b.macs.length then 3
  else if allI b.tabs.length (fun i => decide ((b.tabs.getD i tab0).rows.length ≤ 8)) = false then 3
  else if allI b.macs.length (fun i => decide ((b.macs.getD i mac0).blocks.length ≤ 5)) = false then 3
  else if inB b.scales 1 4 = false ∨ allI b.tabs.length (fun i => tabB b.scales (b.tabs.getD i tab0)) = false ∨ allI b.macs.length (fun i => macB b.scales (b.macs.getD i mac0)) = false then 1
  else 0
theorem brk_ok {t : TabD} (h : allI t.brk.length (brkB t) = true) : ∀ i, i < t.brk.length → 0 ≤ t.brk.getD i 0 ∧ t.brk.getD i 0 ≤ (t.rows.length : Int) - 2 ∧ (0 < i → t.brk.getD (i - 1) 0 < t.brk.getD i 0) := by
  intro i
  have key := allI_iff.1 h
  induction i with
  | zero =>
    intro hi
    have := inB_iff.1 (key 0 hi)
    simp only [lastU] at this
    exact ⟨by omega, by omega, fun h => absurd h (Nat.lt_irrefl _)⟩
  | succ i ih =>
    intro hi
    have a := ih (by omega)
    have b := inB_iff.1 (key (i + 1) hi)
    simp only [lastU] at b
    exact ⟨by omega, by omega, fun _ => by show t.brk.getD i 0 < _; omega⟩
theorem tab_ok {n : Int} {t : TabD} (h : tabB n t = true) : TabV n t := by
  unfold tabB headB at h
  simp only [Bool.and_eq_true, inB_iff, Bool.not_eq_true', decide_eq_false_iff_not, decide_eq_true_eq] at h
  obtain ⟨⟨⟨⟨⟨⟨⟨h1, h2⟩, h3⟩, h4⟩, h5⟩, h6⟩, h7⟩, h8⟩ := h
  have h6 := allI_iff.1 h6
  have h7 := allI_iff.1 h7
  have hst : ∀ i, i + 1 < t.rows.length → tx t i < tx t (i + 1) ∧ ty t (i + 1) ≠ ty t i ∧ (ty t i < ty t (i + 1) ↔ risesB t = true) := fun i hi => by
    have := h7 i (by omega)
    unfold stepB at this
    simp only [Bool.and_eq_true, decide_eq_true_eq, Bool.not_eq_true', decide_eq_false_iff_not, beq_iff_eq] at this
    refine ⟨this.1.1, this.1.2, ?_⟩
    rw [← this.2, decide_eq_true_eq]; rfl
  refine ⟨by omega, by omega, h3, h4, by omega, fun i hi => ?_, ⟨fun i hi => (hst i hi).1, ?_⟩, fun b hb => ?_⟩
  · have := h6 i hi
    unfold rowB at this
    simp only [Bool.and_eq_true, inB_iff] at this
    exact this
  · cases hr : risesB t with
    | true => exact .inl fun i hi => (hst i hi).2.2.2 hr
    | false =>
      refine .inr fun i hi => ?_
      have a := hst i hi
      have : ¬ ty t i < ty t (i + 1) := fun h => by have := a.2.2.1 h; rw [hr] at this; cases this
      have := a.2.1
      omega
  · obtain ⟨i, hi, e⟩ := List.getElem_of_mem hb
    have := brk_ok h8 i hi
    simp only [List.getD, List.getElem?_eq_getElem hi, Option.getD_some] at this
    rw [e] at this
    exact ⟨this.1, this.2.1⟩
theorem mac_ok {n : Int} {m : MacD} (h : macB n m = true) : MacV n m := by
  unfold macB at h
  rw [Bool.and_eq_true, inB_iff, allI_iff] at h
  refine ⟨by omega, fun i hi => ?_⟩
  have := h.2 i hi
  unfold blkB spanB at this
  simp only [Bool.and_eq_true, inB_iff, decide_eq_true_eq] at this
  omega
theorem check_ok {b : BookD} (h : checkF b = 0) : BookV b := by
  unfold checkF at h
  split at h
  · cases h
  · rename_i h1
    split at h
    · cases h
    · rename_i h2
      split at h
      · cases h
      · rename_i h3
        split at h
        · cases h
        · rename_i h4
          simp only [not_or, Bool.not_eq_false] at h2 h3 h4
          have a := (allI_list (l := b.tabs) (d := tab0) (p := fun t => decide (t.rows.length ≤ 8))).1 h2
          have c := (allI_list (l := b.macs) (d := mac0) (p := fun m => decide (m.blocks.length ≤ 5))).1 h3
          have d := (allI_list (l := b.tabs) (d := tab0) (p := tabB b.scales)).1 h4.2.1
          have e := (allI_list (l := b.macs) (d := mac0) (p := macB b.scales)).1 h4.2.2
          have f := inB_iff.1 h4.1
          refine ⟨f, by omega, by omega, fun t ht => of_decide_eq_true (a t ht), fun m hm => of_decide_eq_true (c m hm), fun t ht => tab_ok (d t ht), fun m hm => mac_ok (e m hm)⟩
def readB (b : BookD) (r : Int × Int) : Bool := inB r.1 0 ((b.macs.length : Int) - 1) && inB r.2 0 100000
def readF (b : BookD) (l : List (Int × Int)) : Int :=
  if checkF b ≠ 0 then checkF b
  else if 8 < l.length then 3
  else if allI l.length (fun i => readB b (l.getD i (0, 0))) = false then 2
  else if allI l.length (fun i => !offB (b.macs.getD (l.getD i (0, 0)).1.toNat mac0)) = false then 11
  else 0
theorem read_ok {b : BookD} {l : List (Int × Int)} (h : readF b l = 0) : BookV b ∧ ReadV b l := by
  unfold readF at h
  split at h
  · rename_i h1; exact absurd h h1
  · rename_i h1
    split at h
    · cases h
    · rename_i h2
      split at h
      · cases h
      · rename_i h3
        split at h
        · cases h
        · rename_i h4
          have h1 := Decidable.not_not.1 h1
          simp only [Bool.not_eq_false] at h3 h4
          have h3 := allI_iff.1 h3
          have h4 := allI_iff.1 h4
          have h5 : ∀ i, i < l.length → (0 ≤ (l.getD i (0, 0)).1 ∧ (l.getD i (0, 0)).1 ≤ (b.macs.length : Int) - 1) ∧ 0 ≤ (l.getD i (0, 0)).2 ∧ (l.getD i (0, 0)).2 ≤ 100000 := fun i hi => by
            have := h3 i hi
            unfold readB at this
            rwa [Bool.and_eq_true, inB_iff, inB_iff] at this
          refine ⟨check_ok h1, by omega, fun i hi => ?_, fun i hi => (h5 i hi).2, fun i hi => ?_⟩
          · have := h5 i hi; omega
          · have := h4 i hi
            rwa [Bool.not_eq_true'] at this
end Go.Hard

namespace Go.Hard
theorem mem_at {l : List Int} {i : Nat} {x : Int} (h : i < l.length) (e : x = l.getD i 0) : x ∈ l := by rw [e]; exact getD_mem' h
theorem mem_not {l : List Int} {x : Int} (h : ∀ i, i < l.length → ¬ x = l.getD i 0) : ¬ x ∈ l := fun hm => by
  obtain ⟨i, hi, e⟩ := List.getElem_of_mem hm
  refine h i hi ?_
  simp only [List.getD, List.getElem?_eq_getElem hi, Option.getD_some]; exact e.symm
theorem any_mem {l : List Int} {x : Int} : (List.range l.length).any (fun i => decide (x = l.getD i 0)) = decide (x ∈ l) := by
  rw [Bool.eq_iff_iff, List.any_eq_true, decide_eq_true_eq]
  constructor
  · rintro ⟨i, hi, h⟩; exact mem_at (List.mem_range.1 hi) (of_decide_eq_true h)
  · intro h
    obtain ⟨i, hi, e⟩ := List.getElem_of_mem h
    refine ⟨i, List.mem_range.2 hi, decide_eq_true ?_⟩
    simp only [List.getD, List.getElem?_eq_getElem hi, Option.getD_some]; exact e.symm
theorem find_at {p : Nat → Bool} {n k : Nat} (hk : k < n) (h : ∀ i, i < k → p i = false) (hp : p k = true) : (List.range n).find? p = some k := by
  rw [List.find?_range_eq_some]
  exact ⟨hp, List.mem_range.2 hk, fun j hj => by simp [h j hj]⟩
theorem find_not {p : Nat → Bool} {n : Nat} (h : ∀ i, i < n → p i = false) : (List.range n).find? p = none := by
  rw [List.find?_eq_none]
  intro x hx; simp [h x (List.mem_range.1 hx)]
section
variable {t : TabD} {v : Int} {k : Nat}
theorem made_row (hk : k < t.rows.length) (h : ∀ i, i < k → ¬ tx t i = v) (e : tx t k = v) : madeF t v = some (ty t k, ty t k) := by
  unfold madeF
  rw [find_at (p := atRow t v) hk (fun i hi => decide_eq_false (h i hi)) (decide_eq_true e)]
theorem made_piece (hn : ∀ i, i < t.rows.length → ¬ tx t i = v) (hk : k + 1 < t.rows.length) (h : ∀ i, i < k → inPiece t v i = false) (e : inPiece t v k = true) : madeF t v = some (pieceR t v k) := by
  unfold madeF
  rw [find_not (p := atRow t v) fun i hi => decide_eq_false (hn i hi), find_at (show k < t.rows.length - 1 by omega) h e]
theorem made_no (hn : ∀ i, i < t.rows.length → ¬ tx t i = v) (h : ∀ i, i + 1 < t.rows.length → inPiece t v i = false) : madeF t v = none := by
  unfold madeF
  rw [find_not (p := atRow t v) fun i hi => decide_eq_false (hn i hi), find_not (p := inPiece t v) fun i hi => h i (by omega)]
theorem piece_y (h1 : tx t k < v) (h2 : v < tx t (k + 1)) (h3 : ¬ broken t k) : inPiece t v k = true := by
  unfold inPiece; simp only [Bool.and_eq_true, decide_eq_true_eq, Bool.not_eq_true', decide_eq_false_iff_not]; exact ⟨⟨h1, h2⟩, h3⟩
theorem piece_n (h : ¬ tx t k < v ∨ ¬ v < tx t (k + 1) ∨ broken t k) : inPiece t v k = false := by
  cases hb : inPiece t v k with
  | false => rfl
  | true =>
    unfold inPiece at hb
    simp only [Bool.and_eq_true, decide_eq_true_eq, Bool.not_eq_true', decide_eq_false_iff_not] at hb
    rcases h with h | h | h
    · exact absurd hb.1.1 h
    · exact absurd hb.1.2 h
    · exact absurd h hb.2
theorem piece_bds {n : Int} (hV : TabV n t) (hk : k + 1 < t.rows.length) (h1 : tx t k < v) (h2 : v < tx t (k + 1)) : (-100000000000 ≤ pieceN t v k ∧ pieceN t v k ≤ 100000000000) ∧ 0 < pieceD t k ∧ pieceD t k ≤ 100000 := by
  have a := hV.bnd k (by omega)
  have b := hV.bnd (k + 1) hk
  refine ⟨?_, by unfold pieceD; omega⟩
  unfold pieceN
  have c1 : 0 ≤ v - tx t k := by omega
  have c2 : v - tx t k ≤ 100000 := by omega
  have e1 : (v - tx t k) * (ty t (k + 1) - ty t k) ≤ (v - tx t k) * 100000 := Int.mul_le_mul_of_nonneg_left (by omega) c1
  have e2 : (v - tx t k) * (-100000) ≤ (v - tx t k) * (ty t (k + 1) - ty t k) := Int.mul_le_mul_of_nonneg_left (by omega) c1
  omega
end
def brB (t : TabD) (r : Rng) (j : Nat) : Bool := decide (r.2 ≤ tx t j) || decide (tx t (j + 1) ≤ r.1)
theorem all_list {l : List Int} {p : Int → Bool} : (List.range l.length).all (fun i => p (l.getD i 0)) = l.all p := by
  rw [Bool.eq_iff_iff, List.all_eq_true (p := p)]
  exact allI_list (l := l) (d := 0) (p := p)
theorem conv_n1 {t : TabD} {r : Rng} (h : r.1 < tx t 0) : convB t r = false := by
  cases hb : convB t r with
  | false => rfl
  | true => have := (convB_iff.1 hb).1; omega
theorem conv_n2 {t : TabD} {r : Rng} (h : tx t (t.rows.length - 1) < r.2) : convB t r = false := by
  cases hb : convB t r with
  | false => rfl
  | true => have := (convB_iff.1 hb).2.1; omega
theorem conv_y {t : TabD} {r : Rng} (h1 : ¬ r.1 < tx t 0) (h2 : ¬ tx t (t.rows.length - 1) < r.2) : convB t r = (List.range t.brk.length).all (fun i => brB t r (t.brk.getD i 0).toNat) := by
  rw [all_list (p := fun b => brB t r b.toNat)]
  unfold convB
  rw [decide_eq_true (show tx t 0 ≤ r.1 by omega), decide_eq_true (show r.2 ≤ tx t (t.rows.length - 1) by omega)]
  rfl
theorem rconv_y {n : Int} {t : TabD} {r : Rng} (hV : TabV n t) (h1 : ¬ r.1 < tx t 0) (h2 : ¬ tx t (t.rows.length - 1) < r.2) (h : ∀ i, i + 1 < t.rows.length → ¬ ((i : Int) ∈ t.brk ∧ tx t i < r.2 ∧ r.1 < tx t (i + 1))) : convB t r = true := by
  refine convB_iff.2 ⟨by omega, by omega, fun b hb => ?_⟩
  have hr := hV.brk b hb
  have := h b.toNat (by omega)
  rw [show ((b.toNat : Nat) : Int) = b by omega] at this
  exact Decidable.byContradiction fun hne => this ⟨hb, by omega, by omega⟩
theorem rconv_n {t : TabD} {r : Rng} {k : Nat} (h1 : (k : Int) ∈ t.brk) (h2 : tx t k < r.2) (h3 : r.1 < tx t (k + 1)) : convB t r = false := by
  cases hb : convB t r with
  | false => rfl
  | true =>
    have := (convB_iff.1 hb).2.2 _ h1
    rw [show ((k : Nat) : Int).toNat = k from rfl] at this
    omega
def madeV (t : TabD) (v : Int) : Rng := (madeF t v).getD (0, 0)
theorem made_bd {n : Int} {t : TabD} {v lo hi : Int} (hV : TabV n t) (h : MadeT t v lo hi) : 1 ≤ lo ∧ lo ≤ hi ∧ hi ≤ 100000 := by
  rcases hV.rows.y with hy | hy
  · cases h with
    | row i hi' hx h1 h2 => have := hV.bnd i hi'; omega
    | piece i hi' ha hb hB h1 h2 =>
      have := piece_bd hV.rows.x hy hi' ha hb
      have a := hV.bnd i (by omega)
      have b := hV.bnd (i + 1) hi'
      omega
  · have hy' : ∀ i, i + 1 < t.rows.length → (fun i => -ty t i) i < (fun i => -ty t i) (i + 1) := fun i hi => by have := hy i hi; show -ty t i < -ty t (i + 1); omega
    have h' := made_neg h
    cases h' with
    | row i hi' hx h1 h2 => have := hV.bnd i hi'; omega
    | piece i hi' ha hb hB h1 h2 =>
      have := piece_bd hV.rows.x hy' hi' ha hb
      have a := hV.bnd i (by omega)
      have b := hV.bnd (i + 1) hi'
      omega
theorem madeV_bd {n : Int} {t : TabD} (hV : TabV n t) (v : Int) : (0 ≤ (madeV t v).1 ∧ (madeV t v).1 ≤ 100000) ∧ 0 ≤ (madeV t v).2 ∧ (madeV t v).2 ≤ 100000 := by
  unfold madeV
  cases h : madeF t v with
  | none => exact ⟨⟨by decide, by decide⟩, by decide, by decide⟩
  | some r => have := made_bd hV (made_is h); rw [Option.getD_some]; omega
end Go.Hard

namespace Go.Hard
open Go.RowKit Go.Eng
def slsR (o : Bool) (n : Nat) (v : Nat → Value) (sz : Nat) (k : Nat → Nat) (c : Nat → List Value) : Res where
 S := fun b => ∃ i, i < n ∧ slFoot (v i) (c i) b
 p := fun w => ∀ i, i < n → SlAt w (v i) sz (k i) (c i)
 own := o
 stable := fun w w' h g i hi => (sl (v i) sz (k i) (c i)).stable w w' (h i hi) fun b hb => g b ⟨i, hi, hb⟩
 lt := fun w b h ⟨i, hi, hb⟩ => (sl (v i) sz (k i) (c i)).lt w b (h i hi) hb
def rowsN (ts : List TabD) (i : Nat) : Nat := (ts.getD i tab0).rows.length
def rowsC (ts : List TabD) (i : Nat) : List Value := pairs (ts.getD i tab0).rows
def brkN (ts : List TabD) (i : Nat) : Nat := (ts.getD i tab0).brk.length
def brkC (ts : List TabD) (i : Nat) : List Value := ints (ts.getD i tab0).brk
def blkN (ms : List MacD) (i : Nat) : Nat := (ms.getD i mac0).blocks.length
def blkC (ms : List MacD) (i : Nat) : List Value := trips (ms.getD i mac0).blocks
def tabC (lr lb : Nat → Value) (ts : List TabD) (i : Nat) : List Value := [.int .i64 (ts.getD i tab0).frm, .int .i64 (ts.getD i tab0).dst, lr i, lb i, .int .i64 (ts.getD i tab0).err]
def macC (lk : Nat → Value) (ms : List MacD) (i : Nat) : List Value := [.int .i64 (ms.getD i mac0).scale, lk i]
theorem tabC_len (lr lb : Nat → Value) (ts : List TabD) (i : Nat) : (tabC lr lb ts i).length = 5 := rfl
theorem macC_len (lk : Nat → Value) (ms : List MacD) (i : Nat) : (macC lk ms i).length = 2 := rfl
def tabsC (lr lb : Nat → Value) (ts : List TabD) : List Value := flatI ts.length (tabC lr lb ts)
def macsC (lk : Nat → Value) (ms : List MacD) : List Value := flatI ms.length (macC lk ms)
structure TabsAt (w : World) (v : Value) (lr lb : Nat → Value) (ts : List TabD) : Prop where
 tabs : SlAt w v 5 ts.length (tabsC lr lb ts)
 rows : ∀ i, i < ts.length → SlAt w (lr i) 2 (rowsN ts i) (rowsC ts i)
 brks : ∀ i, i < ts.length → SlAt w (lb i) 1 (brkN ts i) (brkC ts i)
structure MacsAt (w : World) (v : Value) (lk : Nat → Value) (ms : List MacD) : Prop where
 macs : SlAt w v 2 ms.length (macsC lk ms)
 blks : ∀ i, i < ms.length → SlAt w (lk i) 3 (blkN ms i) (blkC ms i)
def tabsR (o : Bool) (v : Value) (lr lb : Nat → Value) (ts : List TabD) : Res where
 S := fun b => slFoot v (tabsC lr lb ts) b ∨ (slsR o ts.length lr 2 (rowsN ts) (rowsC ts)).S b ∨ (slsR o ts.length lb 1 (brkN ts) (brkC ts)).S b
 p := fun w => TabsAt w v lr lb ts
 own := o
 stable := fun w w' h k => ⟨(sl v 5 ts.length (tabsC lr lb ts)).stable w w' h.tabs fun b hb => k b (.inl hb), (slsR o ts.length lr 2 (rowsN ts) (rowsC ts)).stable w w' h.rows fun b hb => k b (.inr (.inl hb)), (slsR o ts.length lb 1 (brkN ts) (brkC ts)).stable w w' h.brks fun b hb => k b (.inr (.inr hb))⟩
 lt := fun w b h hb => by
  rcases hb with hb | hb | hb
  ·exact (sl v 5 ts.length (tabsC lr lb ts)).lt w b h.tabs hb
  ·exact (slsR o ts.length lr 2 (rowsN ts) (rowsC ts)).lt w b h.rows hb
  ·exact (slsR o ts.length lb 1 (brkN ts) (brkC ts)).lt w b h.brks hb
def macsR (o : Bool) (v : Value) (lk : Nat → Value) (ms : List MacD) : Res where
 S := fun b => slFoot v (macsC lk ms) b ∨ (slsR o ms.length lk 3 (blkN ms) (blkC ms)).S b
 p := fun w => MacsAt w v lk ms
 own := o
 stable := fun w w' h k => ⟨(sl v 2 ms.length (macsC lk ms)).stable w w' h.macs fun b hb => k b (.inl hb), (slsR o ms.length lk 3 (blkN ms) (blkC ms)).stable w w' h.blks fun b hb => k b (.inr hb)⟩
 lt := fun w b h hb => by
  rcases hb with hb | hb
  ·exact (sl v 2 ms.length (macsC lk ms)).lt w b h.macs hb
  ·exact (slsR o ms.length lk 3 (blkN ms) (blkC ms)).lt w b h.blks hb
theorem tabs_at {w : World} {o : Bool} {v : Value} {lr lb : Nat → Value} {ts : List TabD} (h : (tabsR o v lr lb ts).p w) : TabsAt w v lr lb ts := h
theorem macs_at {w : World} {o : Bool} {v : Value} {lk : Nat → Value} {ms : List MacD} (h : (macsR o v lk ms).p w) : MacsAt w v lk ms := h
section
variable {lr lb lk : Nat → Value} {ts : List TabD} {ms : List MacD} {i : Nat}
theorem tabs_at2 (h : i < ts.length) : (tabsC lr lb ts)[i * 5 + 2]? = some (lr i) := flatI_at (tabC_len lr lb ts) h (k := 2) (by decide)
theorem tabs_at3 (h : i < ts.length) : (tabsC lr lb ts)[i * 5 + 3]? = some (lb i) := flatI_at (tabC_len lr lb ts) h (k := 3) (by decide)
theorem tabs_all (h : i < ts.length) : ((tabsC lr lb ts).drop (i * 5)).take 5 = [.int .i64 (ts.getD i tab0).frm, .int .i64 (ts.getD i tab0).dst, lr i, lb i, .int .i64 (ts.getD i tab0).err] := flatI_all (tabC_len lr lb ts) h
theorem macs_at1 (h : i < ms.length) : (macsC lk ms)[i * 2 + 1]? = some (lk i) := flatI_at (macC_len lk ms) h (k := 1) (by decide)
theorem macs_all (h : i < ms.length) : ((macsC lk ms).drop (i * 2)).take 2 = [.int .i64 (ms.getD i mac0).scale, lk i] := flatI_all (macC_len lk ms) h
theorem TabsAt.row {w : World} {v : Value} (h : TabsAt w v lr lb ts) (hi : i < ts.length) : SlAt w (lr i) 2 (ts.getD i tab0).rows.length (pairs (ts.getD i tab0).rows) := h.rows i hi
theorem TabsAt.brk {w : World} {v : Value} (h : TabsAt w v lr lb ts) (hi : i < ts.length) : SlAt w (lb i) 1 (ts.getD i tab0).brk.length (ints (ts.getD i tab0).brk) := h.brks i hi
theorem MacsAt.blk {w : World} {v : Value} (h : MacsAt w v lk ms) (hi : i < ms.length) : SlAt w (lk i) 3 (ms.getD i mac0).blocks.length (trips (ms.getD i mac0).blocks) := h.blks i hi
def putV (n : Nat) (v : Nat → Value) (u : Value) : Nat → Value := fun i => if i = n then u else v i
theorem putV_new (n : Nat) (v : Nat → Value) (u : Value) : putV n v u n = u := if_pos rfl
theorem putV_old {n i : Nat} (v : Nat → Value) (u : Value) (h : i < n) : putV n v u i = v i := if_neg (by omega)
theorem getD_old {α : Type} {l : List α} {x d : α} {i : Nat} (h : i < l.length) : (l ++ [x]).getD i d = l.getD i d := by simp [List.getD, List.getElem?_append_left h]
theorem getD_new {α : Type} {l : List α} {x d : α} : (l ++ [x]).getD l.length d = x := by simp [List.getD]
theorem tabs_snoc (t : TabD) (u1 u2 : Value) : tabsC lr lb ts ++ [.int .i64 t.frm, .int .i64 t.dst, u1, u2, .int .i64 t.err] = tabsC (putV ts.length lr u1) (putV ts.length lb u2) (ts ++ [t]) := by
 unfold tabsC
 rw [List.length_append, List.length_singleton, flatI_succ]
 congr 1
 ·exact flatI_congr fun i hi => by unfold tabC; rw [getD_old hi, putV_old _ _ hi, putV_old _ _ hi]
 ·unfold tabC; rw [getD_new, putV_new, putV_new]
theorem macs_snoc (m : MacD) (u : Value) : macsC lk ms ++ [.int .i64 m.scale, u] = macsC (putV ms.length lk u) (ms ++ [m]) := by
 unfold macsC
 rw [List.length_append, List.length_singleton, flatI_succ]
 congr 1
 ·exact flatI_congr fun i hi => by unfold macC; rw [getD_old hi, putV_old _ _ hi]
 ·unfold macC; rw [getD_new, putV_new]
end
theorem ret_int {k : IntKind} {a b : Int} (h : a = b) : Value.int k a = Value.int k b := by rw [h]
theorem callsI {P : Program} {f : FuncId} {args : Array Value} {w : World} {b' : Int} (k : Calls P f args w (Ret fun v w' => v = .int .i64 b' ∧ Ext NoB w w')) (b : Int) (h : b' = b) : Calls P f args w (Ret fun v w' => v = .int .i64 b ∧ Ext NoB w w') := by subst h; exact k
def minU (l : List Int) : Nat → Int
 | 0 => l.getD 0 0
 | k + 1 => min (minU l k) (l.getD (k + 1) 0)
def maxU (l : List Int) : Nat → Int
 | 0 => l.getD 0 0
 | k + 1 => max (maxU l k) (l.getD (k + 1) 0)
def downF (n d : Int) : Int := n / d
def upF (n d : Int) : Int := -(-n / d)
theorem down_y {n d : Int} (hd : 0 < d) (h : n.tmod d < 0) : n.tdiv d - 1 = downF n d := by
 unfold downF
 have e1 := Int.mul_tdiv_add_tmod n d
 have e2 := Int.mul_ediv_add_emod n d
 have b1 := Int.emod_nonneg n (show d ≠ 0 by omega)
 have b2 := Int.emod_lt_of_pos n hd
 have b3 := Int.lt_tmod_of_pos n hd
 have k : d * (n.tdiv d - 1 - n / d) = n % d - n.tmod d - d := by rw [Int.mul_sub, Int.mul_sub, Int.mul_one]; omega
 have k1 : d * (n.tdiv d - 1 - n / d) < d * 1 := by rw [k]; omega
 have k2 : d * (-1) < d * (n.tdiv d - 1 - n / d) := by rw [k]; omega
 have := Int.lt_of_mul_lt_mul_left k1 (by omega)
 have := Int.lt_of_mul_lt_mul_left k2 (by omega)
 omega
theorem down_n {n d : Int} (hd : 0 < d) (h : ¬ n.tmod d < 0) : n.tdiv d = downF n d := by
 unfold downF
 have e1 := Int.mul_tdiv_add_tmod n d
 have e2 := Int.mul_ediv_add_emod n d
 have b1 := Int.emod_nonneg n (show d ≠ 0 by omega)
 have b2 := Int.emod_lt_of_pos n hd
 have b3 := Int.tmod_lt_of_pos n hd
 have k : d * (n.tdiv d - n / d) = n % d - n.tmod d := by rw [Int.mul_sub]; omega
 have k1 : d * (n.tdiv d - n / d) < d * 1 := by rw [k]; omega
 have k2 : d * (-1) < d * (n.tdiv d - n / d) := by rw [k]; omega
 have := Int.lt_of_mul_lt_mul_left k1 (by omega)
 have := Int.lt_of_mul_lt_mul_left k2 (by omega)
 omega
theorem trips_sub0 {xs : List (Int × Int × Int)} {i : Nat} (h : i < xs.length) : ((trips xs).drop (i * 3)).take 2 = [.int .i64 (xs.getD i (0, 0, 0)).1, .int .i64 (xs.getD i (0, 0, 0)).2.1] := by
 have := congrArg (·.take 2) (trips_all h)
 simpa [List.take_take] using this
end Go.Hard

namespace Go.Proofs.Ytohgladndklciaa
open Go.RowKit Go.Shelf Go.Eng Go.Hard
end Go.Proofs.Ytohgladndklciaa

namespace Go.Proofs.Ytohgladndklciaa
open Go.RowKit Go.Shelf Go.Eng Go.Hard
theorem en_47 : ∀ args w, (callFunc 47 args).run Try.prog w = .ok (.enter 47 args) w := enters_of Try.func47 (by kernel_rfl) rfl
theorem en_22 : ∀ args w, (callFunc 22 args).run Try.prog w = .ok (.enter 22 args) w := enters_of Try.func22 (by kernel_rfl) rfl
theorem fd_30_0 : fldK Try.prog 30 0 = some 0 := by kernel_rfl
theorem ty_3 : tyK Try.prog 3 = some (false, 1) := by kernel_rfl
theorem en_70 : ∀ args w, (callFunc 70 args).run Try.prog w = .ok (.enter 70 args) w := enters_of Try.func70 (by kernel_rfl) rfl
theorem fd_30_1 : fldK Try.prog 30 1 = some 1 := by kernel_rfl
theorem fd_27_0 : fldK Try.prog 27 0 = some 0 := by kernel_rfl
theorem en_53 : ∀ args w, (callFunc 53 args).run Try.prog w = .ok (.enter 53 args) w := enters_of Try.func53 (by kernel_rfl) rfl
theorem fd_27_1 : fldK Try.prog 27 1 = some 1 := by kernel_rfl
theorem fd_107_0 : fldK Try.prog 107 0 = some 0 := by kernel_rfl
theorem fd_107_1 : fldK Try.prog 107 1 = some 1 := by kernel_rfl
theorem ze_30 : (Try.prog.info? 30).bind (·.zero) = some (Value.agg #[(Value.int .i64 0), (Value.int .i64 0)]) := by kernel_rfl
theorem bd_30_0i_1i (x0_0 : Int) (x1_0 : Int) (w : World) : (Instr.build 30 #[(0, (.int .i64 x0_0)), (1, (.int .i64 x1_0))]).run Try.prog w = .ok (.agg #[(.int .i64 x0_0), (.int .i64 x1_0)]) w := by kernel_rfl
theorem ty_30 : tyK Try.prog 30 = some (true, 2) := by kernel_rfl
theorem fd_157_0 : fldK Try.prog 157 0 = some 0 := by kernel_rfl
theorem fd_157_1 : fldK Try.prog 157 1 = some 1 := by kernel_rfl
theorem un_44 : Try.prog.underlying 44 = some (.slice 3) := by kernel_rfl
theorem en_104 : ∀ args w, (callFunc 104 args).run Try.prog w = .ok (.enter 104 args) w := enters_of Try.func104 (by kernel_rfl) rfl
theorem en_105 : ∀ args w, (callFunc 105 args).run Try.prog w = .ok (.enter 105 args) w := enters_of Try.func105 (by kernel_rfl) rfl
theorem ze_3 : (Try.prog.info? 3).bind (·.zero) = some (Value.int .i64 0) := by kernel_rfl
theorem mixed : Try.prog.follows .mixedOrders = true := by kernel_rfl
theorem bs_3_2_0i_1i (x0_0 : Int) (x1_0 : Int) : Instr.fill (fun i => some (i * 1, 1)) ((Array.range (2 * 1)).map ((Value.int .i64 0).cells[· % (Value.int .i64 0).cells.size]!)) [(0, (.int .i64 x0_0)), (1, (.int .i64 x1_0))] = some (([(.int .i64 x0_0), (.int .i64 x1_0)] : List Value).toArray) := by kernel_rfl
theorem en_80 : ∀ args w, (callFunc 80 args).run Try.prog w = .ok (.enter 80 args) w := enters_of Try.func80 (by kernel_rfl) rfl
theorem en_79 : ∀ args w, (callFunc 79 args).run Try.prog w = .ok (.enter 79 args) w := enters_of Try.func79 (by kernel_rfl) rfl
theorem ze_27 : (Try.prog.info? 27).bind (·.zero) = some (Value.agg #[(Value.int .i64 0), (Value.int .i64 0)]) := by kernel_rfl
theorem bd_27_0i_1i (x0_0 : Int) (x1_0 : Int) (w : World) : (Instr.build 27 #[(0, (.int .i64 x0_0)), (1, (.int .i64 x1_0))]).run Try.prog w = .ok (.agg #[(.int .i64 x0_0), (.int .i64 x1_0)]) w := by kernel_rfl
theorem ty_27 : tyK Try.prog 27 = some (true, 2) := by kernel_rfl
theorem bd_157_0i_1i (x0_0 : Int) (x1_0 : Int) (w : World) : (Instr.build 157 #[(0, (.int .i64 x0_0)), (1, (.int .i64 x1_0))]).run Try.prog w = .ok (.agg #[(.int .i64 x0_0), (.int .i64 x1_0)]) w := by kernel_rfl
theorem en_102 : ∀ args w, (callFunc 102 args).run Try.prog w = .ok (.enter 102 args) w := enters_of Try.func102 (by kernel_rfl) rfl
theorem en_81 : ∀ args w, (callFunc 81 args).run Try.prog w = .ok (.enter 81 args) w := enters_of Try.func81 (by kernel_rfl) rfl
theorem within_ok (n lo hi : Int) (w : World) :
  Calls Try.prog 47 #[(Value.int .i64 n), (Value.int .i64 lo), (Value.int .i64 hi)] w (Ret fun v w' => v = .bool (inB n lo hi) ∧ w' = w) := by
 refine calls_enter Try.func47 rfl fun a0 hA0 => ?_
 replace hA0 : Fr 15 [] [(0, (Value.int .i64 n)), (1, (Value.int .i64 lo)), (2, (Value.int .i64 hi))] a0 := hA0
 have hS0 : Sep NoB w w [] := Sep.start _ _
 refine m2 ?_
 refine s1 hA0 (op_assign rfl (evc _ _)) fun a1 hA2 => ?_; clear hA0 a0
 refine n4 ?_
 refine s1 hA2 (op_move rfl (hA2.ev rfl)) fun a3 hA4 => ?_; clear hA2 a1
 refine s1 hA4 (op_move rfl (hA4.ev rfl)) fun a5 hA6 => ?_; clear hA4 a3
 refine s1 hA6 (op_leq rfl (hA6.ev rfl) (hA6.ev rfl)) fun a7 hA8 => ?_; clear hA6 a5
 refine s1 hA8 (op_move rfl (hA8.ev rfl)) fun a9 hA10 => ?_; clear hA8 a7
 by_cases hb11 : lo ≤ n
 ·skip
  rw [decide_eq_true hb11] at hA10
  refine s5 hA10 (op_move rfl (hA10.ev rfl)) fun a12 hA13 => ?_; clear hA10 a9
  refine s5 hA13 (op_move rfl (hA13.ev rfl)) fun a14 hA15 => ?_; clear hA13 a12
  refine s5 hA15 (op_leq rfl (hA15.ev rfl) (hA15.ev rfl)) fun a16 hA17 => ?_; clear hA15 a14
  refine s1 hA17 (op_pick_t rfl (hA17.ev rfl) (hA17.ev rfl)) fun a18 hA19 => ?_; clear hA17 a16
  refine s1 hA19 (op_assign rfl (hA19.ev rfl)) fun a20 hA21 => ?_; clear hA19 a18
  refine n1 ?_
  refine c_ret ?_
  refine fin_run hA21 (.inl rfl) (run_results1 hA21 rfl (.tmp rfl)) ?_
  exact ⟨congrArg Value.bool (by unfold inB; simp [*]), rfl⟩
 ·skip
  rw [decide_eq_false hb11] at hA10
  refine s3 hA10 fun a22 hA23 => ?_; clear hA10 a9
  refine s3 hA23 fun a24 hA25 => ?_; clear hA23 a22
  refine s3 hA25 fun a26 hA27 => ?_; clear hA25 a24
  refine s1 hA27 (op_pick_f rfl (hA27.ev rfl) (evc _ _)) fun a28 hA29 => ?_; clear hA27 a26
  refine s1 hA29 (op_assign rfl (hA29.ev rfl)) fun a30 hA31 => ?_; clear hA29 a28
  refine n1 ?_
  refine c_ret ?_
  refine fin_run hA31 (.inl rfl) (run_results1 hA31 rfl (.tmp rfl)) ?_
  exact ⟨congrArg Value.bool (by unfold inB; simp [*]), rfl⟩
theorem In_ok (n lo hi : Int) (w : World) :
  Calls Try.prog 22 #[(Value.int .i64 n), (Value.int .i64 lo), (Value.int .i64 hi)] w (Ret fun v w' => v = .bool (inB n lo hi) ∧ w' = w) := by
 refine calls_enter Try.func22 rfl fun a0 hA0 => ?_
 replace hA0 : Fr 15 [] [(0, (Value.int .i64 n)), (1, (Value.int .i64 lo)), (2, (Value.int .i64 hi))] a0 := hA0
 have hS0 : Sep NoB w w [] := Sep.start _ _
 refine m2 ?_
 refine s1 hA0 (op_assign rfl (evc _ _)) fun a1 hA2 => ?_; clear hA0 a0
 refine n4 ?_
 refine s1 hA2 (op_move rfl (hA2.ev rfl)) fun a3 hA4 => ?_; clear hA2 a1
 refine s1 hA4 (op_move rfl (hA4.ev rfl)) fun a5 hA6 => ?_; clear hA4 a3
 refine s1 hA6 (op_geq rfl (hA6.ev rfl) (hA6.ev rfl)) fun a7 hA8 => ?_; clear hA6 a5
 refine s1 hA8 (op_move rfl (hA8.ev rfl)) fun a9 hA10 => ?_; clear hA8 a7
 by_cases hb11 : lo ≤ n
 ·skip
  rw [decide_eq_true hb11] at hA10
  refine s5 hA10 (op_move rfl (hA10.ev rfl)) fun a12 hA13 => ?_; clear hA10 a9
  refine s5 hA13 (op_move rfl (hA13.ev rfl)) fun a14 hA15 => ?_; clear hA13 a12
  refine s5 hA15 (op_leq rfl (hA15.ev rfl) (hA15.ev rfl)) fun a16 hA17 => ?_; clear hA15 a14
  refine s1 hA17 (op_pick_t rfl (hA17.ev rfl) (hA17.ev rfl)) fun a18 hA19 => ?_; clear hA17 a16
  refine s1 hA19 (op_assign rfl (hA19.ev rfl)) fun a20 hA21 => ?_; clear hA19 a18
  refine n1 ?_
  refine c_ret ?_
  refine fin_run hA21 (.inl rfl) (run_results1 hA21 rfl (.tmp rfl)) ?_
  exact ⟨congrArg Value.bool (by unfold inB; simp [*]), rfl⟩
 ·skip
  rw [decide_eq_false hb11] at hA10
  refine s3 hA10 fun a22 hA23 => ?_; clear hA10 a9
  refine s3 hA23 fun a24 hA25 => ?_; clear hA23 a22
  refine s3 hA25 fun a26 hA27 => ?_; clear hA25 a24
  refine s1 hA27 (op_pick_f rfl (hA27.ev rfl) (evc _ _)) fun a28 hA29 => ?_; clear hA27 a26
  refine s1 hA29 (op_assign rfl (hA29.ev rfl)) fun a30 hA31 => ?_; clear hA29 a28
  refine n1 ?_
  refine c_ret ?_
  refine fin_run hA31 (.inl rfl) (run_results1 hA31 rfl (.tmp rfl)) ?_
  exact ⟨congrArg Value.bool (by unfold inB; simp [*]), rfl⟩
theorem value_ok (n : Int) (w : World) :
  Calls Try.prog 70 #[(Value.int .i64 n)] w (Ret fun v w' => v = .bool (inB n 0 100000) ∧ Ext NoB w w') := by
 refine calls_enter Try.func70 rfl fun a0 hA0 => ?_
 replace hA0 : Fr 5 [] [(0, (Value.int .i64 n))] a0 := hA0
 have hS0 : Sep NoB w w [] := Sep.start _ _
 refine m2 ?_
 refine s1 hA0 (op_assign rfl (evc _ _)) fun a1 hA2 => ?_; clear hA0 a0
 refine n4 ?_
 refine s1 hA2 (op_move rfl (hA2.ev rfl)) fun a3 hA4 => ?_; clear hA2 a1
 refine s2 hA4 (op_call rfl en_47 (ev3 (hA4.ev rfl) (evc _ _) (evc _ _)) (within_ok _ _ _ _)) ?_
 rintro a5 _ W_ ⟨rfl, hW_⟩ hA6; have hW2_ := hW_.symm; subst hW2_; clear hW_ hA4 a3
 refine s1 hA6 (op_assign rfl (hA6.ev rfl)) fun a8 hA9 => ?_; clear hA6 a5
 refine n1 ?_
 refine c_ret ?_
 refine fin_run hA9 (.inl rfl) (run_results1 hA9 rfl (.tmp rfl)) ?_
 exact ⟨rfl, hS0.ext⟩
theorem rvalue_ok (n : Int) (w : World) :
  Calls Try.prog 53 #[(Value.int .i64 n)] w (Ret fun v w' => v = .bool (inB n 0 100000) ∧ Ext NoB w w') := by
 refine calls_enter Try.func53 rfl fun a0 hA0 => ?_
 replace hA0 : Fr 5 [] [(0, (Value.int .i64 n))] a0 := hA0
 have hS0 : Sep NoB w w [] := Sep.start _ _
 refine m2 ?_
 refine s1 hA0 (op_assign rfl (evc _ _)) fun a1 hA2 => ?_; clear hA0 a0
 refine n4 ?_
 refine s1 hA2 (op_move rfl (hA2.ev rfl)) fun a3 hA4 => ?_; clear hA2 a1
 refine s2 hA4 (op_call rfl en_22 (ev3 (hA4.ev rfl) (evc _ _) (evc _ _)) (In_ok _ _ _ _)) ?_
 rintro a5 _ W_ ⟨rfl, hW_⟩ hA6; have hW2_ := hW_.symm; subst hW2_; clear hW_ hA4 a3
 refine s1 hA6 (op_assign rfl (hA6.ev rfl)) fun a8 hA9 => ?_; clear hA6 a5
 refine n1 ?_
 refine c_ret ?_
 refine fin_run hA9 (.inl rfl) (run_results1 hA9 rfl (.tmp rfl)) ?_
 exact ⟨rfl, hS0.ext⟩
theorem values_ok (r1 r2 : Int) (w : World) :
  Calls Try.prog 48 #[(Value.agg #[(Value.int .i64 r1), (Value.int .i64 r2)])] w (Ret fun v w' => v = .bool (spanB (r1, r2)) ∧ Ext NoB w w') := by
 refine calls_enter Try.func48 rfl fun a0 hA0 => ?_
 replace hA0 : Fr 18 [] [(0, (Value.agg #[(Value.int .i64 r1), (Value.int .i64 r2)]))] a0 := hA0
 have hS0 : Sep NoB w w [] := Sep.start _ _
 refine m2 ?_
 refine s2 hA0 (op_box hS0 rfl (hA0.ev rfl) (cs := [(Value.int .i64 r1), (Value.int .i64 r2)]) rfl) ?_
 rintro a1 _ w3 ⟨b4, rfl, hS5⟩ hA2; clear hA0 hS0 a0
 refine s1 hA2 (op_assign rfl (evc _ _)) fun a6 hA7 => ?_; clear hA2 a1
 refine n4 ?_
 refine s1 hA7 (op_field rfl fd_30_0 (hA7.ev rfl)) fun a8 hA9 => ?_; clear hA7 a6
 refine s1 hA9 (op_load1 rfl ty_3 (hA9.ev rfl) (hS5.bk 0 rfl) rfl) fun a10 hA11 => ?_; clear hA9 a8
 refine s2 hA11 (op_call rfl en_70 (ev1 (hA11.ev rfl)) (value_ok _ _)) ?_
 rintro a12 _ w14 ⟨rfl, hE15⟩ hA13; have hS16 := hS5.step hE15; clear hE15 hA11 hS5 a10
 refine s1 hA13 (op_move rfl (hA13.ev rfl)) fun a17 hA18 => ?_; clear hA13 a12
 rcases Bool.eq_false_or_eq_true ((inB r1 0 100000)) with hb19 | hb19
 ·skip
  rw [hb19] at hA18
  refine s5 hA18 (op_field rfl fd_30_1 (hA18.ev rfl)) fun a20 hA21 => ?_; clear hA18 a17
  refine s5 hA21 (op_load1 rfl ty_3 (hA21.ev rfl) (hS16.bk 0 rfl) rfl) fun a22 hA23 => ?_; clear hA21 a20
  refine s6 hA23 (op_call rfl en_70 (ev1 (hA23.ev rfl)) (value_ok _ _)) ?_
  rintro a24 _ w26 ⟨rfl, hE27⟩ hA25; have hS28 := hS16.step hE27; clear hE27 hA23 hS16 a22
  refine s1 hA25 (op_pick_t rfl (hA25.ev rfl) (hA25.ev rfl)) fun a29 hA30 => ?_; clear hA25 a24
  refine s1 hA30 (op_move rfl (hA30.ev rfl)) fun a31 hA32 => ?_; clear hA30 a29
  rcases Bool.eq_false_or_eq_true ((inB r2 0 100000)) with hb33 | hb33
  ·skip
   rw [hb33] at hA32
   refine s5 hA32 (op_field rfl fd_30_0 (hA32.ev rfl)) fun a34 hA35 => ?_; clear hA32 a31
   refine s5 hA35 (op_load1 rfl ty_3 (hA35.ev rfl) (hS28.bk 0 rfl) rfl) fun a36 hA37 => ?_; clear hA35 a34
   refine s5 hA37 (op_field rfl fd_30_1 (hA37.ev rfl)) fun a38 hA39 => ?_; clear hA37 a36
   refine s5 hA39 (op_load1 rfl ty_3 (hA39.ev rfl) (hS28.bk 0 rfl) rfl) fun a40 hA41 => ?_; clear hA39 a38
   refine s5 hA41 (op_leq rfl (hA41.ev rfl) (hA41.ev rfl)) fun a42 hA43 => ?_; clear hA41 a40
   refine s1 hA43 (op_pick_t rfl (hA43.ev rfl) (hA43.ev rfl)) fun a44 hA45 => ?_; clear hA43 a42
   refine s1 hA45 (op_assign rfl (hA45.ev rfl)) fun a46 hA47 => ?_; clear hA45 a44
   refine n1 ?_
   refine c_ret ?_
   refine fin_run hA47 (.inl rfl) (run_results1 hA47 rfl (.tmp rfl)) ?_
   exact ⟨congrArg Value.bool (by unfold spanB; simp [*]), hS28.ext⟩
  ·skip
   rw [hb33] at hA32
   refine s3 hA32 fun a48 hA49 => ?_; clear hA32 a31
   refine s3 hA49 fun a50 hA51 => ?_; clear hA49 a48
   refine s3 hA51 fun a52 hA53 => ?_; clear hA51 a50
   refine s3 hA53 fun a54 hA55 => ?_; clear hA53 a52
   refine s3 hA55 fun a56 hA57 => ?_; clear hA55 a54
   refine s1 hA57 (op_pick_f rfl (hA57.ev rfl) (evc _ _)) fun a58 hA59 => ?_; clear hA57 a56
   refine s1 hA59 (op_assign rfl (hA59.ev rfl)) fun a60 hA61 => ?_; clear hA59 a58
   refine n1 ?_
   refine c_ret ?_
   refine fin_run hA61 (.inl rfl) (run_results1 hA61 rfl (.tmp rfl)) ?_
   exact ⟨congrArg Value.bool (by unfold spanB; simp [*]), hS28.ext⟩
 ·skip
  rw [hb19] at hA18
  refine s3 hA18 fun a62 hA63 => ?_; clear hA18 a17
  refine s3 hA63 fun a64 hA65 => ?_; clear hA63 a62
  refine s3 hA65 fun a66 hA67 => ?_; clear hA65 a64
  refine s1 hA67 (op_pick_f rfl (hA67.ev rfl) (evc _ _)) fun a68 hA69 => ?_; clear hA67 a66
  refine s1 hA69 (op_move rfl (hA69.ev rfl)) fun a70 hA71 => ?_; clear hA69 a68
  refine s3 hA71 fun a72 hA73 => ?_; clear hA71 a70
  refine s3 hA73 fun a74 hA75 => ?_; clear hA73 a72
  refine s3 hA75 fun a76 hA77 => ?_; clear hA75 a74
  refine s3 hA77 fun a78 hA79 => ?_; clear hA77 a76
  refine s3 hA79 fun a80 hA81 => ?_; clear hA79 a78
  refine s1 hA81 (op_pick_f rfl (hA81.ev rfl) (evc _ _)) fun a82 hA83 => ?_; clear hA81 a80
  refine s1 hA83 (op_assign rfl (hA83.ev rfl)) fun a84 hA85 => ?_; clear hA83 a82
  refine n1 ?_
  refine c_ret ?_
  refine fin_run hA85 (.inl rfl) (run_results1 hA85 rfl (.tmp rfl)) ?_
  exact ⟨congrArg Value.bool (by unfold spanB; simp [*]), hS16.ext⟩
theorem span_ok (r1 r2 : Int) (w : World) :
  Calls Try.prog 52 #[(Value.agg #[(Value.int .i64 r1), (Value.int .i64 r2)])] w (Ret fun v w' => v = .bool (spanB (r1, r2)) ∧ Ext NoB w w') := by
 refine calls_enter Try.func52 rfl fun a0 hA0 => ?_
 replace hA0 : Fr 18 [] [(0, (Value.agg #[(Value.int .i64 r1), (Value.int .i64 r2)]))] a0 := hA0
 have hS0 : Sep NoB w w [] := Sep.start _ _
 refine m2 ?_
 refine s2 hA0 (op_box hS0 rfl (hA0.ev rfl) (cs := [(Value.int .i64 r1), (Value.int .i64 r2)]) rfl) ?_
 rintro a1 _ w3 ⟨b4, rfl, hS5⟩ hA2; clear hA0 hS0 a0
 refine s1 hA2 (op_assign rfl (evc _ _)) fun a6 hA7 => ?_; clear hA2 a1
 refine n4 ?_
 refine s1 hA7 (op_field rfl fd_27_0 (hA7.ev rfl)) fun a8 hA9 => ?_; clear hA7 a6
 refine s1 hA9 (op_load1 rfl ty_3 (hA9.ev rfl) (hS5.bk 0 rfl) rfl) fun a10 hA11 => ?_; clear hA9 a8
 refine s2 hA11 (op_call rfl en_53 (ev1 (hA11.ev rfl)) (rvalue_ok _ _)) ?_
 rintro a12 _ w14 ⟨rfl, hE15⟩ hA13; have hS16 := hS5.step hE15; clear hE15 hA11 hS5 a10
 refine s1 hA13 (op_move rfl (hA13.ev rfl)) fun a17 hA18 => ?_; clear hA13 a12
 rcases Bool.eq_false_or_eq_true ((inB r1 0 100000)) with hb19 | hb19
 ·skip
  rw [hb19] at hA18
  refine s5 hA18 (op_field rfl fd_27_1 (hA18.ev rfl)) fun a20 hA21 => ?_; clear hA18 a17
  refine s5 hA21 (op_load1 rfl ty_3 (hA21.ev rfl) (hS16.bk 0 rfl) rfl) fun a22 hA23 => ?_; clear hA21 a20
  refine s6 hA23 (op_call rfl en_53 (ev1 (hA23.ev rfl)) (rvalue_ok _ _)) ?_
  rintro a24 _ w26 ⟨rfl, hE27⟩ hA25; have hS28 := hS16.step hE27; clear hE27 hA23 hS16 a22
  refine s1 hA25 (op_pick_t rfl (hA25.ev rfl) (hA25.ev rfl)) fun a29 hA30 => ?_; clear hA25 a24
  refine s1 hA30 (op_move rfl (hA30.ev rfl)) fun a31 hA32 => ?_; clear hA30 a29
  rcases Bool.eq_false_or_eq_true ((inB r2 0 100000)) with hb33 | hb33
  ·skip
   rw [hb33] at hA32
   refine s5 hA32 (op_field rfl fd_27_0 (hA32.ev rfl)) fun a34 hA35 => ?_; clear hA32 a31
   refine s5 hA35 (op_load1 rfl ty_3 (hA35.ev rfl) (hS28.bk 0 rfl) rfl) fun a36 hA37 => ?_; clear hA35 a34
   refine s5 hA37 (op_field rfl fd_27_1 (hA37.ev rfl)) fun a38 hA39 => ?_; clear hA37 a36
   refine s5 hA39 (op_load1 rfl ty_3 (hA39.ev rfl) (hS28.bk 0 rfl) rfl) fun a40 hA41 => ?_; clear hA39 a38
   refine s5 hA41 (op_leq rfl (hA41.ev rfl) (hA41.ev rfl)) fun a42 hA43 => ?_; clear hA41 a40
   refine s1 hA43 (op_pick_t rfl (hA43.ev rfl) (hA43.ev rfl)) fun a44 hA45 => ?_; clear hA43 a42
   refine s1 hA45 (op_assign rfl (hA45.ev rfl)) fun a46 hA47 => ?_; clear hA45 a44
   refine n1 ?_
   refine c_ret ?_
   refine fin_run hA47 (.inl rfl) (run_results1 hA47 rfl (.tmp rfl)) ?_
   exact ⟨congrArg Value.bool (by unfold spanB; simp [*]), hS28.ext⟩
  ·skip
   rw [hb33] at hA32
   refine s3 hA32 fun a48 hA49 => ?_; clear hA32 a31
   refine s3 hA49 fun a50 hA51 => ?_; clear hA49 a48
   refine s3 hA51 fun a52 hA53 => ?_; clear hA51 a50
   refine s3 hA53 fun a54 hA55 => ?_; clear hA53 a52
   refine s3 hA55 fun a56 hA57 => ?_; clear hA55 a54
   refine s1 hA57 (op_pick_f rfl (hA57.ev rfl) (evc _ _)) fun a58 hA59 => ?_; clear hA57 a56
   refine s1 hA59 (op_assign rfl (hA59.ev rfl)) fun a60 hA61 => ?_; clear hA59 a58
   refine n1 ?_
   refine c_ret ?_
   refine fin_run hA61 (.inl rfl) (run_results1 hA61 rfl (.tmp rfl)) ?_
   exact ⟨congrArg Value.bool (by unfold spanB; simp [*]), hS28.ext⟩
 ·skip
  rw [hb19] at hA18
  refine s3 hA18 fun a62 hA63 => ?_; clear hA18 a17
  refine s3 hA63 fun a64 hA65 => ?_; clear hA63 a62
  refine s3 hA65 fun a66 hA67 => ?_; clear hA65 a64
  refine s1 hA67 (op_pick_f rfl (hA67.ev rfl) (evc _ _)) fun a68 hA69 => ?_; clear hA67 a66
  refine s1 hA69 (op_move rfl (hA69.ev rfl)) fun a70 hA71 => ?_; clear hA69 a68
  refine s3 hA71 fun a72 hA73 => ?_; clear hA71 a70
  refine s3 hA73 fun a74 hA75 => ?_; clear hA73 a72
  refine s3 hA75 fun a76 hA77 => ?_; clear hA75 a74
  refine s3 hA77 fun a78 hA79 => ?_; clear hA77 a76
  refine s3 hA79 fun a80 hA81 => ?_; clear hA79 a78
  refine s1 hA81 (op_pick_f rfl (hA81.ev rfl) (evc _ _)) fun a82 hA83 => ?_; clear hA81 a80
  refine s1 hA83 (op_assign rfl (hA83.ev rfl)) fun a84 hA85 => ?_; clear hA83 a82
  refine n1 ?_
  refine c_ret ?_
  refine fin_run hA85 (.inl rfl) (run_results1 hA85 rfl (.tmp rfl)) ?_
  exact ⟨congrArg Value.bool (by unfold spanB; simp [*]), hS16.ext⟩
theorem empty_ok (r1 r2 : Int) (w : World) :
  Calls Try.prog 68 #[(Value.agg #[(Value.int .i64 r1), (Value.int .i64 r2)])] w (Ret fun v w' => v = .bool (decide (r2 < r1)) ∧ Ext NoB w w') := by
 refine calls_enter Try.func68 rfl fun a0 hA0 => ?_
 replace hA0 : Fr 8 [] [(0, (Value.agg #[(Value.int .i64 r1), (Value.int .i64 r2)]))] a0 := hA0
 have hS0 : Sep NoB w w [] := Sep.start _ _
 refine m2 ?_
 refine s2 hA0 (op_box hS0 rfl (hA0.ev rfl) (cs := [(Value.int .i64 r1), (Value.int .i64 r2)]) rfl) ?_
 rintro a1 _ w3 ⟨b4, rfl, hS5⟩ hA2; clear hA0 hS0 a0
 refine s1 hA2 (op_assign rfl (evc _ _)) fun a6 hA7 => ?_; clear hA2 a1
 refine n4 ?_
 refine s1 hA7 (op_field rfl fd_30_0 (hA7.ev rfl)) fun a8 hA9 => ?_; clear hA7 a6
 refine s1 hA9 (op_load1 rfl ty_3 (hA9.ev rfl) (hS5.bk 0 rfl) rfl) fun a10 hA11 => ?_; clear hA9 a8
 refine s1 hA11 (op_field rfl fd_30_1 (hA11.ev rfl)) fun a12 hA13 => ?_; clear hA11 a10
 refine s1 hA13 (op_load1 rfl ty_3 (hA13.ev rfl) (hS5.bk 0 rfl) rfl) fun a14 hA15 => ?_; clear hA13 a12
 refine s1 hA15 (op_gtr rfl (hA15.ev rfl) (hA15.ev rfl)) fun a16 hA17 => ?_; clear hA15 a14
 refine s1 hA17 (op_assign rfl (hA17.ev rfl)) fun a18 hA19 => ?_; clear hA17 a16
 refine n1 ?_
 refine c_ret ?_
 refine fin_run hA19 (.inl rfl) (run_results1 hA19 rfl (.tmp rfl)) ?_
 exact ⟨rfl, hS5.ext⟩
theorem row_ok (r1 r2 : Int) (w : World) :
  Calls Try.prog 95 #[(Value.agg #[(Value.int .i64 r1), (Value.int .i64 r2)])] w (Ret fun v w' => v = .bool (rowB (r1, r2)) ∧ Ext NoB w w') := by
 refine calls_enter Try.func95 rfl fun a0 hA0 => ?_
 replace hA0 : Fr 11 [] [(0, (Value.agg #[(Value.int .i64 r1), (Value.int .i64 r2)]))] a0 := hA0
 have hS0 : Sep NoB w w [] := Sep.start _ _
 refine m2 ?_
 refine s2 hA0 (op_box hS0 rfl (hA0.ev rfl) (cs := [(Value.int .i64 r1), (Value.int .i64 r2)]) rfl) ?_
 rintro a1 _ w3 ⟨b4, rfl, hS5⟩ hA2; clear hA0 hS0 a0
 refine s1 hA2 (op_assign rfl (evc _ _)) fun a6 hA7 => ?_; clear hA2 a1
 refine n4 ?_
 refine s1 hA7 (op_field rfl fd_107_0 (hA7.ev rfl)) fun a8 hA9 => ?_; clear hA7 a6
 refine s1 hA9 (op_load1 rfl ty_3 (hA9.ev rfl) (hS5.bk 0 rfl) rfl) fun a10 hA11 => ?_; clear hA9 a8
 refine s2 hA11 (op_call rfl en_47 (ev3 (hA11.ev rfl) (evc _ _) (evc _ _)) (within_ok _ _ _ _)) ?_
 rintro a12 _ W_ ⟨rfl, hW_⟩ hA13; have hW2_ := hW_.symm; subst hW2_; clear hW_ hA11 a10
 refine s1 hA13 (op_move rfl (hA13.ev rfl)) fun a15 hA16 => ?_; clear hA13 a12
 rcases Bool.eq_false_or_eq_true ((inB r1 1 100000)) with hb17 | hb17
 ·skip
  rw [hb17] at hA16
  refine s5 hA16 (op_field rfl fd_107_1 (hA16.ev rfl)) fun a18 hA19 => ?_; clear hA16 a15
  refine s5 hA19 (op_load1 rfl ty_3 (hA19.ev rfl) (hS5.bk 0 rfl) rfl) fun a20 hA21 => ?_; clear hA19 a18
  refine s6 hA21 (op_call rfl en_47 (ev3 (hA21.ev rfl) (evc _ _) (evc _ _)) (within_ok _ _ _ _)) ?_
  rintro a22 _ W_ ⟨rfl, hW_⟩ hA23; have hW2_ := hW_.symm; subst hW2_; clear hW_ hA21 a20
  refine s1 hA23 (op_pick_t rfl (hA23.ev rfl) (hA23.ev rfl)) fun a25 hA26 => ?_; clear hA23 a22
  refine s1 hA26 (op_assign rfl (hA26.ev rfl)) fun a27 hA28 => ?_; clear hA26 a25
  refine n1 ?_
  refine c_ret ?_
  refine fin_run hA28 (.inl rfl) (run_results1 hA28 rfl (.tmp rfl)) ?_
  exact ⟨congrArg Value.bool (by unfold rowB; simp [*]), hS5.ext⟩
 ·skip
  rw [hb17] at hA16
  refine s3 hA16 fun a29 hA30 => ?_; clear hA16 a15
  refine s3 hA30 fun a31 hA32 => ?_; clear hA30 a29
  refine s3 hA32 fun a33 hA34 => ?_; clear hA32 a31
  refine s1 hA34 (op_pick_f rfl (hA34.ev rfl) (evc _ _)) fun a35 hA36 => ?_; clear hA34 a33
  refine s1 hA36 (op_assign rfl (hA36.ev rfl)) fun a37 hA38 => ?_; clear hA36 a35
  refine n1 ?_
  refine c_ret ?_
  refine fin_run hA38 (.inl rfl) (run_results1 hA38 rfl (.tmp rfl)) ?_
  exact ⟨congrArg Value.bool (by unfold rowB; simp [*]), hS5.ext⟩
theorem to_ok (r1 r2 : Int) (w : World) :
  Calls Try.prog 20 #[(Value.agg #[(Value.int .i64 r1), (Value.int .i64 r2)])] w (Ret fun v w' => v = .agg #[.int .i64 r1, .int .i64 r2] ∧ Ext NoB w w') := by
 refine calls_enter Try.func20 rfl fun a0 hA0 => ?_
 replace hA0 : Fr 8 [] [(0, (Value.agg #[(Value.int .i64 r1), (Value.int .i64 r2)]))] a0 := hA0
 have hS0 : Sep NoB w w [] := Sep.start _ _
 refine m2 ?_
 refine s2 hA0 (op_box hS0 rfl (hA0.ev rfl) (cs := [(Value.int .i64 r1), (Value.int .i64 r2)]) rfl) ?_
 rintro a1 _ w3 ⟨b4, rfl, hS5⟩ hA2; clear hA0 hS0 a0
 refine s2 hA2 (op_alloc hS5 rfl ze_30 (cs := [(Value.int .i64 0), (Value.int .i64 0)]) rfl) ?_
 rintro a6 _ w8 ⟨b9, rfl, hS10⟩ hA7; clear hA2 hS5 a1
 refine n4 ?_
 refine s1 hA7 (op_field rfl fd_27_0 (hA7.ev rfl)) fun a11 hA12 => ?_; clear hA7 a6
 refine s1 hA12 (op_load1 rfl ty_3 (hA12.ev rfl) (hS10.bk 1 rfl) rfl) fun a13 hA14 => ?_; clear hA12 a11
 refine s1 hA14 (op_field rfl fd_27_1 (hA14.ev rfl)) fun a15 hA16 => ?_; clear hA14 a13
 refine s1 hA16 (op_load1 rfl ty_3 (hA16.ev rfl) (hS10.bk 1 rfl) rfl) fun a17 hA18 => ?_; clear hA16 a15
 refine s1 hA18 (op_build rfl (pv2 (hA18.ev rfl) (hA18.ev rfl)) (bd_30_0i_1i _ _)) fun a19 hA20 => ?_; clear hA18 a17
 refine s7 hA20 (op_store hS10 rfl ty_30 (hA20.ev rfl) (hA20.ev rfl) (i := 0) rfl (vs := [(Value.int .i64 r1), (Value.int .i64 r2)]) rfl rfl rfl (Nat.le_of_ble_eq_true rfl)) ?_
 intro _ w21 hS22 hA23; clear hA20
 have hS24 : Sep NoB w w21 [(blk b9 30 [(Value.int .i64 r1), (Value.int .i64 r2)]), (blk b4 27 [(Value.int .i64 r1), (Value.int .i64 r2)])] := hS22; clear hS22 hS10
 refine n1 ?_
 refine c_ret ?_
 refine fin_run hA23 (.inl rfl) (run_results1 hA23 rfl (.cellA rfl ty_30 (hS24.bk 0 rfl) (l := [(Value.int .i64 r1), (Value.int .i64 r2)]) rfl rfl)) ?_
 exact ⟨rfl, hS24.ext⟩
theorem between_ok (a b : Int) (w : World) :
  Calls Try.prog 31 #[(Value.int .i64 a), (Value.int .i64 b)] w (Ret fun v w' => v = .agg #[.int .i64 a, .int .i64 b] ∧ Ext NoB w w') := by
 refine calls_enter Try.func31 rfl fun a0 hA0 => ?_
 replace hA0 : Fr 8 [] [(0, (Value.int .i64 a)), (1, (Value.int .i64 b))] a0 := hA0
 have hS0 : Sep NoB w w [] := Sep.start _ _
 refine m2 ?_
 refine s2 hA0 (op_alloc hS0 rfl ze_30 (cs := [(Value.int .i64 0), (Value.int .i64 0)]) rfl) ?_
 rintro a1 _ w3 ⟨b4, rfl, hS5⟩ hA2; clear hA0 hS0 a0
 refine n4 ?_
 refine s1 hA2 (op_move rfl (hA2.ev rfl)) fun a6 hA7 => ?_; clear hA2 a1
 refine s1 hA7 (op_move rfl (hA7.ev rfl)) fun a8 hA9 => ?_; clear hA7 a6
 refine s1 hA9 (op_build rfl (pv2 (hA9.ev rfl) (hA9.ev rfl)) (bd_30_0i_1i _ _)) fun a10 hA11 => ?_; clear hA9 a8
 refine s7 hA11 (op_store hS5 rfl ty_30 (hA11.ev rfl) (hA11.ev rfl) (i := 0) rfl (vs := [(Value.int .i64 a), (Value.int .i64 b)]) rfl rfl rfl (Nat.le_of_ble_eq_true rfl)) ?_
 intro _ w12 hS13 hA14; clear hA11
 have hS15 : Sep NoB w w12 [(blk b4 30 [(Value.int .i64 a), (Value.int .i64 b)])] := hS13; clear hS13 hS5
 refine n1 ?_
 refine c_ret ?_
 refine fin_run hA14 (.inl rfl) (run_results1 hA14 rfl (.cellA rfl ty_30 (hS15.bk 0 rfl) (l := [(Value.int .i64 a), (Value.int .i64 b)]) rfl rfl)) ?_
 exact ⟨rfl, hS15.ext⟩
theorem tdiv_bd {n d : Int} (hn : -100000000000 ≤ n ∧ n ≤ 100000000000) (hd : 0 < d ∧ d ≤ 100000) : -100000000000 ≤ n.tdiv d ∧ n.tdiv d ≤ 100000000000 := by
 have a := Int.natAbs_tdiv_le_natAbs n d
 omega
theorem down_ok (n d : Int) (w : World) (hn : -100000000000 ≤ n ∧ n ≤ 100000000000) (hd : 0 < d ∧ d ≤ 100000) :
  Calls Try.prog 102 #[(Value.agg #[(Value.int .i64 n), (Value.int .i64 d)])] w (Ret fun v w' => v = .int .i64 (downF n d) ∧ Ext NoB w w') := by
 refine calls_enter Try.func102 rfl fun a0 hA0 => ?_
 replace hA0 : Fr 18 [] [(0, (Value.agg #[(Value.int .i64 n), (Value.int .i64 d)]))] a0 := hA0
 have hq := tdiv_bd hn hd
 have hS0 : Sep NoB w w [] := Sep.start _ _
 refine m2 ?_
 refine s2 hA0 (op_box hS0 rfl (hA0.ev rfl) (cs := [(Value.int .i64 n), (Value.int .i64 d)]) rfl) ?_
 rintro a1 _ w3 ⟨b4, rfl, hS5⟩ hA2; clear hA0 hS0 a0
 refine s1 hA2 (op_assign rfl (evc _ _)) fun a6 hA7 => ?_; clear hA2 a1
 refine n4 ?_
 refine s1 hA7 (op_field rfl fd_157_0 (hA7.ev rfl)) fun a8 hA9 => ?_; clear hA7 a6
 refine s1 hA9 (op_load1 rfl ty_3 (hA9.ev rfl) (hS5.bk 0 rfl) rfl) fun a10 hA11 => ?_; clear hA9 a8
 refine s1 hA11 (op_field rfl fd_157_1 (hA11.ev rfl)) fun a12 hA13 => ?_; clear hA11 a10
 refine s1 hA13 (op_load1 rfl ty_3 (hA13.ev rfl) (hS5.bk 0 rfl) rfl) fun a14 hA15 => ?_; clear hA13 a12
 refine s1 hA15 (op_quo rfl (hA15.ev rfl) (hA15.ev rfl) (by omega) (by omega) (by omega)) fun a16 hA17 => ?_; clear hA15 a14
 refine s1 hA17 (op_assign rfl (hA17.ev rfl)) fun a18 hA19 => ?_; clear hA17 a16
 refine n2 ?_
 refine c_seq ?_
 have hA20 := hA19.as [(3, (Value.int .i64 ((n).tdiv d))), (1, (bptr b4 0))] rfl; clear hA19
 refine c_region ?_
 refine s1 hA20 (op_field rfl fd_157_0 (hA20.ev rfl)) fun a21 hA22 => ?_; clear hA20 a18
 refine s1 hA22 (op_load1 rfl ty_3 (hA22.ev rfl) (hS5.bk 0 rfl) rfl) fun a23 hA24 => ?_; clear hA22 a21
 refine s1 hA24 (op_field rfl fd_157_1 (hA24.ev rfl)) fun a25 hA26 => ?_; clear hA24 a23
 refine s1 hA26 (op_load1 rfl ty_3 (hA26.ev rfl) (hS5.bk 0 rfl) rfl) fun a27 hA28 => ?_; clear hA26 a25
 refine s1 hA28 (op_rem rfl (hA28.ev rfl) (hA28.ev rfl) (by omega)) fun a29 hA30 => ?_; clear hA28 a27
 refine s1 hA30 (op_lss rfl (hA30.ev rfl) (evc _ _)) fun a31 hA32 => ?_; clear hA30 a29
 refine n1 ?_
 by_cases hb33 : ((n).tmod d) < 0
 ·skip
  rw [decide_eq_true hb33] at hA32
  refine c_true hA32 rfl ?_
  have hA34 := hA32.as [(3, (Value.int .i64 ((n).tdiv d)))] rfl; clear hA32
  refine c_region ?_
  refine s1 hA34 (op_move rfl (hA34.ev rfl)) fun a35 hA36 => ?_; clear hA34 a31
  refine s1 hA36 (op_sub rfl (hA36.ev rfl) (evc _ _) (by omega) (by omega)) fun a37 hA38 => ?_; clear hA36 a35
  refine s1 hA38 (op_assign rfl (hA38.ev rfl)) fun a39 hA40 => ?_; clear hA38 a37
  refine n4 ?_
  refine s1 hA40 (op_move rfl (hA40.ev rfl)) fun a41 hA42 => ?_; clear hA40 a39
  refine s1 hA42 (op_assign rfl (hA42.ev rfl)) fun a43 hA44 => ?_; clear hA42 a41
  refine n1 ?_
  refine c_ret ?_
  refine fin_run hA44 (.inl rfl) (run_results1 hA44 rfl (.tmp rfl)) ?_
  exact ⟨ret_int (by first | exact down_y hd.1 (by assumption) | exact down_n hd.1 (by assumption)), hS5.ext⟩
 ·skip
  rw [decide_eq_false hb33] at hA32
  refine c_false hA32 rfl ?_
  refine c_skip ?_
  refine then_n ?_
  refine c_seq ?_
  have hA45 := hA32.as [(3, (Value.int .i64 ((n).tdiv d)))] rfl; clear hA32
  refine c_region ?_
  refine s1 hA45 (op_move rfl (hA45.ev rfl)) fun a46 hA47 => ?_; clear hA45 a31
  refine s1 hA47 (op_assign rfl (hA47.ev rfl)) fun a48 hA49 => ?_; clear hA47 a46
  refine n1 ?_
  refine c_ret ?_
  refine fin_run hA49 (.inl rfl) (run_results1 hA49 rfl (.tmp rfl)) ?_
  exact ⟨ret_int (by first | exact down_y hd.1 (by assumption) | exact down_n hd.1 (by assumption)), hS5.ext⟩
theorem min_ok (xs : List Int) (v : Value) (w : World) (hv : SlAt w v 1 xs.length (ints xs)) (h1 : 1 ≤ xs.length) (hlen : xs.length ≤ 1000) :
  Calls Try.prog 104 #[v] w (Ret fun v w' => v = .int .i64 (minU xs (xs.length - 1)) ∧ Ext NoB w w') := by
 refine calls_enter Try.func104 rfl fun a0 hA0 => ?_
 replace hA0 : Fr 25 [] [(0, v)] a0 := hA0
 have hS0 : Sep NoB w w [(sl v 1 xs.length (ints xs))] := sep_ro ⟨rfl, hv, trivial⟩
 refine m2 ?_
 refine s1 hA0 (op_assign rfl (evc _ _)) fun a1 hA2 => ?_; clear hA0 a0
 refine n2 ?_
 refine m2 ?_
 refine s1 hA2 (op_move rfl (hA2.ev rfl)) fun a3 hA4 => ?_; clear hA2 a1
 refine s1 hA4 (op_lenS rfl un_44 (hA4.ev rfl) (hS0.ok 0 _ rfl)) fun a5 hA6 => ?_; clear hA4 a3
 refine s1 hA6 (op_lss rfl (hA6.ev rfl) (evc _ _)) fun a7 hA8 => ?_; clear hA6 a5
 have hd9 : ¬ ((xs.length : Int) < 1) := (by omega)
 rw [decide_eq_false hd9] at hA8
 refine n1 ?_
 refine c_false hA8 rfl ?_
 refine c_skip ?_
 refine then_n ?_
 refine m2 ?_
 refine s1 hA8 (op_move rfl (hA8.ev rfl)) fun a10 hA11 => ?_; clear hA8 a7
 refine s1 hA11 (op_indexS rfl un_44 ty_3 (hA11.ev rfl) (i := 0) (show _ = Value.int .i64 ((0 : Nat) : Int) from (evc _ _)) (hS0.ok 0 _ rfl) (by decide) (by omega)) fun a12 hA13 => ?_; clear hA11 a10
 refine s1 hA13 (op_load1E rfl ty_3 (hA13.ev rfl) (hS0.ok 0 _ rfl) (ints_at (by omega))) fun a14 hA15 => ?_; clear hA13 a12
 refine s1 hA15 (op_assign rfl (hA15.ev rfl)) fun a16 hA17 => ?_; clear hA15 a14
 refine n2 ?_
 refine c_seq ?_
 have hA18 := hA17.as [(3, (Value.int .i64 (xs.getD 0 0))), (0, v)] rfl; clear hA17
 refine c_region ?_
 refine s1 hA18 (op_assign rfl (evc _ _)) fun a19 hA20 => ?_; clear hA18 a16
 refine n1 ?_
 refine c_block ?_
 have hA21 := hA20.as [(4, (Value.int .i64 1)), (3, (Value.int .i64 (xs.getD 0 0))), (0, v)] rfl; clear hA20
 refine c_loop (G := Nat) (fun (k : Nat) a_ w_ => Fr 25 [] [(4, (Value.int .i64 ((k + 1 : Nat) : Int))), (3, (Value.int .i64 (minU xs k))), (0, v)] a_ ∧ Sep NoB w w_ [(sl v 1 xs.length (ints xs))] ∧ (k + 1 ≤ xs.length)) (fun k => xs.length - k) 0 ⟨hA21.as _ rfl, hS0, h1⟩ ?_
 clear hA21 hS0 a19
 rintro k a22 w24 ⟨hA23, hS25, hk⟩
 refine c_seq ?_
 refine m2 ?_
 refine s1 hA23 (op_move rfl (hA23.ev rfl)) fun a26 hA27 => ?_; clear hA23 a22
 refine s1 hA27 (op_move rfl (hA27.ev rfl)) fun a28 hA29 => ?_; clear hA27 a26
 refine s1 hA29 (op_lenS rfl un_44 (hA29.ev rfl) (hS25.ok 0 _ rfl)) fun a30 hA31 => ?_; clear hA29 a28
 refine s1 hA31 (op_lss rfl (hA31.ev rfl) (hA31.ev rfl)) fun a32 hA33 => ?_; clear hA31 a30
 refine n1 ?_
 by_cases hb34 : ((k + 1 : Nat) : Int) < (xs.length : Int)
 ·skip
  rw [decide_eq_true hb34] at hA33
  refine c_true hA33 rfl ?_
  refine c_skip ?_
  refine then_n ?_
  refine c_seq ?_
  refine c_block ?_
  refine c_region ?_
  refine s1 hA33 (op_move rfl (hA33.ev rfl)) fun a35 hA36 => ?_; clear hA33 a32
  refine s1 hA36 (op_move rfl (hA36.ev rfl)) fun a37 hA38 => ?_; clear hA36 a35
  refine s1 hA38 (op_move rfl (hA38.ev rfl)) fun a39 hA40 => ?_; clear hA38 a37
  refine s1 hA40 (op_indexS rfl un_44 ty_3 (hA40.ev rfl) (i := (k + 1 : Nat)) (hA40.ev rfl) (hS25.ok 0 _ rfl) (by decide) (by omega)) fun a41 hA42 => ?_; clear hA40 a39
  refine s1 hA42 (op_load1E rfl ty_3 (hA42.ev rfl) (hS25.ok 0 _ rfl) (ints_at (by omega))) fun a43 hA44 => ?_; clear hA42 a41
  refine s1 hA44 (op_min rfl (hA44.ev rfl) (hA44.ev rfl)) fun a45 hA46 => ?_; clear hA44 a43
  refine s1 hA46 (op_assign rfl (hA46.ev rfl)) fun a47 hA48 => ?_; clear hA46 a45
  refine wl_nil ?_
  refine blk_n ?_
  refine then_n ?_
  have hA49 := hA48.as [(3, (Value.int .i64 (min (minU xs k) (xs.getD (k + 1 : Nat) 0)))), (4, (Value.int .i64 ((k + 1 : Nat) : Int))), (0, v)] rfl; clear hA48
  refine c_region ?_
  refine s1 hA49 (op_move rfl (hA49.ev rfl)) fun a50 hA51 => ?_; clear hA49 a47
  refine s1 hA51 (op_add rfl (hA51.ev rfl) (evc _ _) (by omega) (by omega)) fun a52 hA53 => ?_; clear hA51 a50
  refine s1 hA53 (op_assign rfl (hA53.ev rfl)) fun a54 hA55 => ?_; clear hA53 a52
  refine wl_nil ?_
  exact then_n ⟨k + 1, ⟨hA55.as _ rfl, hS25, by omega⟩, by omega⟩
 ·skip
  rw [decide_eq_false hb34] at hA33
  refine c_false hA33 rfl ?_
  refine c_exit ?_
  refine then_exit ?_
  refine then_exit ?_
  refine blk_hit ?_
  refine then_n ?_
  refine c_seq ?_
  have hA56 := hA33.as [(3, (Value.int .i64 (minU xs k)))] rfl; clear hA33
  refine c_region ?_
  refine s1 hA56 (op_move rfl (hA56.ev rfl)) fun a57 hA58 => ?_; clear hA56 a32
  refine s1 hA58 (op_assign rfl (hA58.ev rfl)) fun a59 hA60 => ?_; clear hA58 a57
  refine n1 ?_
  refine c_ret ?_
  refine fin_run hA60 (.inl rfl) (run_results1 hA60 rfl (.tmp rfl)) ?_
  exact ⟨ret_int (by rw [show xs.length - 1 = k by omega]), hS25.ext⟩
theorem max_ok (xs : List Int) (v : Value) (w : World) (hv : SlAt w v 1 xs.length (ints xs)) (h1 : 1 ≤ xs.length) (hlen : xs.length ≤ 1000) :
  Calls Try.prog 105 #[v] w (Ret fun v w' => v = .int .i64 (maxU xs (xs.length - 1)) ∧ Ext NoB w w') := by
 refine calls_enter Try.func105 rfl fun a0 hA0 => ?_
 replace hA0 : Fr 25 [] [(0, v)] a0 := hA0
 have hS0 : Sep NoB w w [(sl v 1 xs.length (ints xs))] := sep_ro ⟨rfl, hv, trivial⟩
 refine m2 ?_
 refine s1 hA0 (op_assign rfl (evc _ _)) fun a1 hA2 => ?_; clear hA0 a0
 refine n2 ?_
 refine m2 ?_
 refine s1 hA2 (op_move rfl (hA2.ev rfl)) fun a3 hA4 => ?_; clear hA2 a1
 refine s1 hA4 (op_lenS rfl un_44 (hA4.ev rfl) (hS0.ok 0 _ rfl)) fun a5 hA6 => ?_; clear hA4 a3
 refine s1 hA6 (op_lss rfl (hA6.ev rfl) (evc _ _)) fun a7 hA8 => ?_; clear hA6 a5
 have hd9 : ¬ ((xs.length : Int) < 1) := (by omega)
 rw [decide_eq_false hd9] at hA8
 refine n1 ?_
 refine c_false hA8 rfl ?_
 refine c_skip ?_
 refine then_n ?_
 refine m2 ?_
 refine s1 hA8 (op_move rfl (hA8.ev rfl)) fun a10 hA11 => ?_; clear hA8 a7
 refine s1 hA11 (op_indexS rfl un_44 ty_3 (hA11.ev rfl) (i := 0) (show _ = Value.int .i64 ((0 : Nat) : Int) from (evc _ _)) (hS0.ok 0 _ rfl) (by decide) (by omega)) fun a12 hA13 => ?_; clear hA11 a10
 refine s1 hA13 (op_load1E rfl ty_3 (hA13.ev rfl) (hS0.ok 0 _ rfl) (ints_at (by omega))) fun a14 hA15 => ?_; clear hA13 a12
 refine s1 hA15 (op_assign rfl (hA15.ev rfl)) fun a16 hA17 => ?_; clear hA15 a14
 refine n2 ?_
 refine c_seq ?_
 have hA18 := hA17.as [(3, (Value.int .i64 (xs.getD 0 0))), (0, v)] rfl; clear hA17
 refine c_region ?_
 refine s1 hA18 (op_assign rfl (evc _ _)) fun a19 hA20 => ?_; clear hA18 a16
 refine n1 ?_
 refine c_block ?_
 have hA21 := hA20.as [(4, (Value.int .i64 1)), (3, (Value.int .i64 (xs.getD 0 0))), (0, v)] rfl; clear hA20
 refine c_loop (G := Nat) (fun (k : Nat) a_ w_ => Fr 25 [] [(4, (Value.int .i64 ((k + 1 : Nat) : Int))), (3, (Value.int .i64 (maxU xs k))), (0, v)] a_ ∧ Sep NoB w w_ [(sl v 1 xs.length (ints xs))] ∧ (k + 1 ≤ xs.length)) (fun k => xs.length - k) 0 ⟨hA21.as _ rfl, hS0, h1⟩ ?_
 clear hA21 hS0 a19
 rintro k a22 w24 ⟨hA23, hS25, hk⟩
 refine c_seq ?_
 refine m2 ?_
 refine s1 hA23 (op_move rfl (hA23.ev rfl)) fun a26 hA27 => ?_; clear hA23 a22
 refine s1 hA27 (op_move rfl (hA27.ev rfl)) fun a28 hA29 => ?_; clear hA27 a26
 refine s1 hA29 (op_lenS rfl un_44 (hA29.ev rfl) (hS25.ok 0 _ rfl)) fun a30 hA31 => ?_; clear hA29 a28
 refine s1 hA31 (op_lss rfl (hA31.ev rfl) (hA31.ev rfl)) fun a32 hA33 => ?_; clear hA31 a30
 refine n1 ?_
 by_cases hb34 : ((k + 1 : Nat) : Int) < (xs.length : Int)
 ·skip
  rw [decide_eq_true hb34] at hA33
  refine c_true hA33 rfl ?_
  refine c_skip ?_
  refine then_n ?_
  refine c_seq ?_
  refine c_block ?_
  refine c_region ?_
  refine s1 hA33 (op_move rfl (hA33.ev rfl)) fun a35 hA36 => ?_; clear hA33 a32
  refine s1 hA36 (op_move rfl (hA36.ev rfl)) fun a37 hA38 => ?_; clear hA36 a35
  refine s1 hA38 (op_move rfl (hA38.ev rfl)) fun a39 hA40 => ?_; clear hA38 a37
  refine s1 hA40 (op_indexS rfl un_44 ty_3 (hA40.ev rfl) (i := (k + 1 : Nat)) (hA40.ev rfl) (hS25.ok 0 _ rfl) (by decide) (by omega)) fun a41 hA42 => ?_; clear hA40 a39
  refine s1 hA42 (op_load1E rfl ty_3 (hA42.ev rfl) (hS25.ok 0 _ rfl) (ints_at (by omega))) fun a43 hA44 => ?_; clear hA42 a41
  refine s1 hA44 (op_max rfl (hA44.ev rfl) (hA44.ev rfl)) fun a45 hA46 => ?_; clear hA44 a43
  refine s1 hA46 (op_assign rfl (hA46.ev rfl)) fun a47 hA48 => ?_; clear hA46 a45
  refine wl_nil ?_
  refine blk_n ?_
  refine then_n ?_
  have hA49 := hA48.as [(3, (Value.int .i64 (max (maxU xs k) (xs.getD (k + 1 : Nat) 0)))), (4, (Value.int .i64 ((k + 1 : Nat) : Int))), (0, v)] rfl; clear hA48
  refine c_region ?_
  refine s1 hA49 (op_move rfl (hA49.ev rfl)) fun a50 hA51 => ?_; clear hA49 a47
  refine s1 hA51 (op_add rfl (hA51.ev rfl) (evc _ _) (by omega) (by omega)) fun a52 hA53 => ?_; clear hA51 a50
  refine s1 hA53 (op_assign rfl (hA53.ev rfl)) fun a54 hA55 => ?_; clear hA53 a52
  refine wl_nil ?_
  exact then_n ⟨k + 1, ⟨hA55.as _ rfl, hS25, by omega⟩, by omega⟩
 ·skip
  rw [decide_eq_false hb34] at hA33
  refine c_false hA33 rfl ?_
  refine c_exit ?_
  refine then_exit ?_
  refine then_exit ?_
  refine blk_hit ?_
  refine then_n ?_
  refine c_seq ?_
  have hA56 := hA33.as [(3, (Value.int .i64 (maxU xs k)))] rfl; clear hA33
  refine c_region ?_
  refine s1 hA56 (op_move rfl (hA56.ev rfl)) fun a57 hA58 => ?_; clear hA56 a32
  refine s1 hA58 (op_assign rfl (hA58.ev rfl)) fun a59 hA60 => ?_; clear hA58 a57
  refine n1 ?_
  refine c_ret ?_
  refine fin_run hA60 (.inl rfl) (run_results1 hA60 rfl (.tmp rfl)) ?_
  exact ⟨ret_int (by rw [show xs.length - 1 = k by omega]), hS25.ext⟩
theorem least_ok (xs : List Int) (v : Value) (w : World) (hv : SlAt w v 1 xs.length (ints xs)) (h1 : 1 ≤ xs.length) (hlen : xs.length ≤ 1000) :
  Calls Try.prog 79 #[v] w (Ret fun v w' => v = .int .i64 (minU xs (xs.length - 1)) ∧ Ext NoB w w') := by
 refine calls_enter Try.func79 rfl fun a0 hA0 => ?_
 replace hA0 : Fr 5 [] [(0, v)] a0 := hA0
 have hS0 : Sep NoB w w [(sl v 1 xs.length (ints xs))] := sep_ro ⟨rfl, hv, trivial⟩
 refine m2 ?_
 refine s1 hA0 (op_assign rfl (evc _ _)) fun a1 hA2 => ?_; clear hA0 a0
 refine n4 ?_
 refine s1 hA2 (op_move rfl (hA2.ev rfl)) fun a3 hA4 => ?_; clear hA2 a1
 refine s2 hA4 (op_call rfl en_104 (ev1 (hA4.ev rfl)) (min_ok xs _ _ (hS0.ok 0 _ rfl) (by omega) (by omega))) ?_
 rintro a5 _ w7 ⟨rfl, hE8⟩ hA6; have hS9 := hS0.step hE8; clear hE8 hA4 hS0 a3
 refine s1 hA6 (op_assign rfl (hA6.ev rfl)) fun a10 hA11 => ?_; clear hA6 a5
 refine n1 ?_
 refine c_ret ?_
 refine fin_run hA11 (.inl rfl) (run_results1 hA11 rfl (.tmp rfl)) ?_
 exact ⟨rfl, hS9.ext⟩
theorem greatest_ok (xs : List Int) (v : Value) (w : World) (hv : SlAt w v 1 xs.length (ints xs)) (h1 : 1 ≤ xs.length) (hlen : xs.length ≤ 1000) :
  Calls Try.prog 80 #[v] w (Ret fun v w' => v = .int .i64 (maxU xs (xs.length - 1)) ∧ Ext NoB w w') := by
 refine calls_enter Try.func80 rfl fun a0 hA0 => ?_
 replace hA0 : Fr 5 [] [(0, v)] a0 := hA0
 have hS0 : Sep NoB w w [(sl v 1 xs.length (ints xs))] := sep_ro ⟨rfl, hv, trivial⟩
 refine m2 ?_
 refine s1 hA0 (op_assign rfl (evc _ _)) fun a1 hA2 => ?_; clear hA0 a0
 refine n4 ?_
 refine s1 hA2 (op_move rfl (hA2.ev rfl)) fun a3 hA4 => ?_; clear hA2 a1
 refine s2 hA4 (op_call rfl en_105 (ev1 (hA4.ev rfl)) (max_ok xs _ _ (hS0.ok 0 _ rfl) (by omega) (by omega))) ?_
 rintro a5 _ w7 ⟨rfl, hE8⟩ hA6; have hS9 := hS0.step hE8; clear hE8 hA4 hS0 a3
 refine s1 hA6 (op_assign rfl (hA6.ev rfl)) fun a10 hA11 => ?_; clear hA6 a5
 refine n1 ?_
 refine c_ret ?_
 refine fin_run hA11 (.inl rfl) (run_results1 hA11 rfl (.tmp rfl)) ?_
 exact ⟨rfl, hS9.ext⟩
theorem cut_ok (r1 r2 o1 o2 : Int) (w : World) :
  Calls Try.prog 87 #[(Value.agg #[(Value.int .i64 r1), (Value.int .i64 r2)]), (Value.agg #[(Value.int .i64 o1), (Value.int .i64 o2)])] w (Ret fun v w' => v = .agg #[.int .i64 (cutR (r1, r2) (o1, o2)).1, .int .i64 (cutR (r1, r2) (o1, o2)).2] ∧ Ext NoB w w') := by
 refine calls_enter Try.func87 rfl fun a0 hA0 => ?_
 replace hA0 : Fr 18 [] [(0, (Value.agg #[(Value.int .i64 r1), (Value.int .i64 r2)])), (1, (Value.agg #[(Value.int .i64 o1), (Value.int .i64 o2)]))] a0 := hA0
 have hS0 : Sep NoB w w [] := Sep.start _ _
 refine m2 ?_
 refine s2 hA0 (op_box hS0 rfl (hA0.ev rfl) (cs := [(Value.int .i64 r1), (Value.int .i64 r2)]) rfl) ?_
 rintro a1 _ w3 ⟨b4, rfl, hS5⟩ hA2; clear hA0 hS0 a0
 refine s2 hA2 (op_box hS5 rfl (hA2.ev rfl) (cs := [(Value.int .i64 o1), (Value.int .i64 o2)]) rfl) ?_
 rintro a6 _ w8 ⟨b9, rfl, hS10⟩ hA7; clear hA2 hS5 a1
 refine s2 hA7 (op_alloc hS10 rfl ze_30 (cs := [(Value.int .i64 0), (Value.int .i64 0)]) rfl) ?_
 rintro a11 _ w13 ⟨b14, rfl, hS15⟩ hA12; clear hA7 hS10 a6
 refine n2 ?_
 have hA16 := hA12.as [(4, (bptr b14 0)), (3, (bptr b9 0)), (2, (bptr b4 0))] rfl; clear hA12
 refine c_drawV mixed hA16 hS15 11 [[], [0], [], [2], [1, 3], [4], [], [6], [], [8], [7, 9]] [(fun (vs17 : Nat → Value) (v_ : Value) (rs_ : List Res) => v_ = (bptr b4 0) ∧ rs_ = []), (fun (vs17 : Nat → Value) (v_ : Value) (rs_ : List Res) => v_ = (Value.int .i64 r1) ∧ rs_ = []), (fun (vs17 : Nat → Value) (v_ : Value) (rs_ : List Res) => v_ = (bptr b9 0) ∧ rs_ = []), (fun (vs17 : Nat → Value) (v_ : Value) (rs_ : List Res) => v_ = (Value.int .i64 o1) ∧ rs_ = []), (fun (vs17 : Nat → Value) (v_ : Value) (rs_ : List Res) => True ∧ rs_ = [(row v_ 3 1 2 [(Value.int .i64 r1), (Value.int .i64 o1)])]), (fun (vs17 : Nat → Value) (v_ : Value) (rs_ : List Res) => v_ = (Value.int .i64 (max r1 o1)) ∧ rs_ = []), (fun (vs17 : Nat → Value) (v_ : Value) (rs_ : List Res) => v_ = (bptr b4 1) ∧ rs_ = []), (fun (vs17 : Nat → Value) (v_ : Value) (rs_ : List Res) => v_ = (Value.int .i64 r2) ∧ rs_ = []), (fun (vs17 : Nat → Value) (v_ : Value) (rs_ : List Res) => v_ = (bptr b9 1) ∧ rs_ = []), (fun (vs17 : Nat → Value) (v_ : Value) (rs_ : List Res) => v_ = (Value.int .i64 o2) ∧ rs_ = []), (fun (vs17 : Nat → Value) (v_ : Value) (rs_ : List Res) => True ∧ rs_ = [(row v_ 3 1 2 [(Value.int .i64 r2), (Value.int .i64 o2)])])] (by decide +kernel) (by decide +kernel) rfl rfl ⟨(fun _ _ _ _ _ h_ => h_), (fun _ _ _ _ _ h_ => h_), (fun _ _ _ _ _ h_ => h_), (fun _ _ _ _ _ h_ => h_), (fun _ _ _ _ _ h_ => h_), (fun _ _ _ _ _ h_ => h_), (fun _ _ _ _ _ h_ => h_), (fun _ _ _ _ _ h_ => h_), (fun _ _ _ _ _ h_ => h_), (fun _ _ _ _ _ h_ => h_), (fun _ _ _ _ _ h_ => h_), trivial⟩ ?_ ?_
 ·skip
  refine ⟨fun a w vs17 hA hS hd => ?_, ?_⟩
  ·skip
   exact opG_of rfl (vv (op_field rfl fd_30_0 (hA.ev rfl)) (And.intro rfl rfl))
  refine ⟨fun a w vs17 hA hS hd => ?_, ?_⟩
  ·skip
   obtain ⟨e0, rs0, hy0, hp0⟩ := hd 0 (by decide)
   obtain ⟨hv0, hr0⟩ := hy0; subst hr0
   rw [hv0] at e0
   exact opG_of rfl (vv (op_load1 rfl ty_3 (tmp_ev (slot_ev e0 rfl)) (hS.bk 2 rfl) rfl) (And.intro rfl rfl))
  refine ⟨fun a w vs17 hA hS hd => ?_, ?_⟩
  ·skip
   exact opG_of rfl (vv (op_field rfl fd_30_0 (hA.ev rfl)) (And.intro rfl rfl))
  refine ⟨fun a w vs17 hA hS hd => ?_, ?_⟩
  ·skip
   obtain ⟨e2, rs2, hy2, hp2⟩ := hd 2 (by decide)
   obtain ⟨hv2, hr2⟩ := hy2; subst hr2
   rw [hv2] at e2
   exact opG_of rfl (vv (op_load1 rfl ty_3 (tmp_ev (slot_ev e2 rfl)) (hS.bk 1 rfl) rfl) (And.intro rfl rfl))
  refine ⟨fun a w vs17 hA hS hd => ?_, ?_⟩
  ·skip
   obtain ⟨e1, rs1, hy1, hp1⟩ := hd 1 (by decide)
   obtain ⟨hv1, hr1⟩ := hy1; subst hr1
   rw [hv1] at e1
   obtain ⟨e3, rs3, hy3, hp3⟩ := hd 3 (by decide)
   obtain ⟨hv3, hr3⟩ := hy3; subst hr3
   rw [hv3] at e3
   exact opG_of rfl (vblt rfl (pv2 (tmp_ev (slot_ev e1 rfl)) (tmp_ev (slot_ev e3 rfl))) un_44 ty_3 ze_3 (by decide) (cs := [(Value.int .i64 r1), (Value.int .i64 o1)]) (bs_3_2_0i_1i _ _) rfl (by decide) (fun _ => And.intro trivial rfl))
  refine ⟨fun a w vs17 hA hS hd => ?_, ?_⟩
  ·skip
   obtain ⟨e4, rs4, hy4, hp4⟩ := hd 4 (by decide)
   obtain ⟨hv4, hr4⟩ := hy4; subst hr4
   have hp4_0 := hp4 _ (List.mem_of_getElem? (i := 0) rfl)
   exact opG_of rfl (vx (op_call rfl en_80 (ev1 (tmp_ev (slot_ev e4 rfl))) (callsI (greatest_ok [r1, o1] _ _ (SlAt.of_row hp4_0) (by simp) (by simp)) (max r1 o1) rfl)) (And.intro rfl rfl))
  refine ⟨fun a w vs17 hA hS hd => ?_, ?_⟩
  ·skip
   exact opG_of rfl (vv (op_field rfl fd_30_1 (hA.ev rfl)) (And.intro rfl rfl))
  refine ⟨fun a w vs17 hA hS hd => ?_, ?_⟩
  ·skip
   obtain ⟨e6, rs6, hy6, hp6⟩ := hd 6 (by decide)
   obtain ⟨hv6, hr6⟩ := hy6; subst hr6
   rw [hv6] at e6
   exact opG_of rfl (vv (op_load1 rfl ty_3 (tmp_ev (slot_ev e6 rfl)) (hS.bk 2 rfl) rfl) (And.intro rfl rfl))
  refine ⟨fun a w vs17 hA hS hd => ?_, ?_⟩
  ·skip
   exact opG_of rfl (vv (op_field rfl fd_30_1 (hA.ev rfl)) (And.intro rfl rfl))
  refine ⟨fun a w vs17 hA hS hd => ?_, ?_⟩
  ·skip
   obtain ⟨e8, rs8, hy8, hp8⟩ := hd 8 (by decide)
   obtain ⟨hv8, hr8⟩ := hy8; subst hr8
   rw [hv8] at e8
   exact opG_of rfl (vv (op_load1 rfl ty_3 (tmp_ev (slot_ev e8 rfl)) (hS.bk 1 rfl) rfl) (And.intro rfl rfl))
  refine ⟨fun a w vs17 hA hS hd => ?_, ?_⟩
  ·skip
   obtain ⟨e7, rs7, hy7, hp7⟩ := hd 7 (by decide)
   obtain ⟨hv7, hr7⟩ := hy7; subst hr7
   rw [hv7] at e7
   obtain ⟨e9, rs9, hy9, hp9⟩ := hd 9 (by decide)
   obtain ⟨hv9, hr9⟩ := hy9; subst hr9
   rw [hv9] at e9
   exact opG_of rfl (vblt rfl (pv2 (tmp_ev (slot_ev e7 rfl)) (tmp_ev (slot_ev e9 rfl))) un_44 ty_3 ze_3 (by decide) (cs := [(Value.int .i64 r2), (Value.int .i64 o2)]) (bs_3_2_0i_1i _ _) rfl (by decide) (fun _ => And.intro trivial rfl))
  trivial
 intro a18 w19 vs17 rsf23 hA20 hH22 hS21; clear hA16 hS15
 obtain ⟨hs_0, hy_0⟩ := hH22 0 (by decide)
 obtain ⟨hv_0, hr_0⟩ := hy_0
 obtain ⟨hs_1, hy_1⟩ := hH22 1 (by decide)
 obtain ⟨hv_1, hr_1⟩ := hy_1
 obtain ⟨hs_2, hy_2⟩ := hH22 2 (by decide)
 obtain ⟨hv_2, hr_2⟩ := hy_2
 obtain ⟨hs_3, hy_3⟩ := hH22 3 (by decide)
 obtain ⟨hv_3, hr_3⟩ := hy_3
 obtain ⟨hs_4, hy_4⟩ := hH22 4 (by decide)
 obtain ⟨hv_4, hr_4⟩ := hy_4
 obtain ⟨hs_5, hy_5⟩ := hH22 5 (by decide)
 obtain ⟨hv_5, hr_5⟩ := hy_5
 obtain ⟨hs_6, hy_6⟩ := hH22 6 (by decide)
 obtain ⟨hv_6, hr_6⟩ := hy_6
 obtain ⟨hs_7, hy_7⟩ := hH22 7 (by decide)
 obtain ⟨hv_7, hr_7⟩ := hy_7
 obtain ⟨hs_8, hy_8⟩ := hH22 8 (by decide)
 obtain ⟨hv_8, hr_8⟩ := hy_8
 obtain ⟨hs_9, hy_9⟩ := hH22 9 (by decide)
 obtain ⟨hv_9, hr_9⟩ := hy_9
 obtain ⟨hs_10, hy_10⟩ := hH22 10 (by decide)
 obtain ⟨hv_10, hr_10⟩ := hy_10
 have hS24 : Sep NoB w w19 [(row (vs17 4) 3 1 2 [(Value.int .i64 r1), (Value.int .i64 o1)]), (row (vs17 10) 3 1 2 [(Value.int .i64 r2), (Value.int .i64 o2)]), (blk b14 30 [(Value.int .i64 0), (Value.int .i64 0)]), (blk b9 30 [(Value.int .i64 o1), (Value.int .i64 o2)]), (blk b4 30 [(Value.int .i64 r1), (Value.int .i64 r2)])] := by rw [show catR rsf23 0 11 = ([(row (vs17 4) 3 1 2 [(Value.int .i64 r1), (Value.int .i64 o1)]), (row (vs17 10) 3 1 2 [(Value.int .i64 r2), (Value.int .i64 o2)])] : List Res) by (try simp only [catR, hr_0, hr_1, hr_2, hr_3, hr_4, hr_5, hr_6, hr_7, hr_8, hr_9, hr_10]); (try rfl)] at hS21; exact hS21
 rw [hv_5] at hs_5
 have hA25 : Fr 18 [] [(10, (Value.int .i64 (max r1 o1))), (4, (bptr b14 0)), (3, (bptr b9 0)), (2, (bptr b4 0))] a18 := hA20.add (slot_ev hs_5 rfl); clear hA20
 have hA26 : Fr 18 [] [(15, (vs17 10)), (10, (Value.int .i64 (max r1 o1))), (4, (bptr b14 0)), (3, (bptr b9 0)), (2, (bptr b4 0))] a18 := hA25.add (slot_ev hs_10 rfl); clear hA25
 clear hH22 hS21 hs_0 hs_1 hs_2 hs_3 hs_4 hs_5 hs_6 hs_7 hs_8 hs_9 hs_10
 clear hr_0
 clear hv_0
 clear hr_1
 clear hv_1
 clear hr_2
 clear hv_2
 clear hr_3
 clear hv_3
 clear hr_4
 clear hv_4
 clear hr_5
 clear hv_5
 clear hr_6
 clear hv_6
 clear hr_7
 clear hv_7
 clear hr_8
 clear hv_8
 clear hr_9
 clear hv_9
 clear hr_10
 clear hv_10
 refine s2 hA26 (op_call rfl en_79 (ev1 (hA26.ev rfl)) (callsI (least_ok [r2, o2] _ _ (SlAt.of_row (hS24.ok_row 1 rfl)) (by simp) (by simp)) (min r2 o2) rfl)) ?_
 rintro a27 _ w29 ⟨rfl, hE30⟩ hA28; have hS31 := hS24.step hE30; clear hE30 hA26 hS24 a18
 refine s1 hA28 (op_build rfl (pv2 (hA28.ev rfl) (hA28.ev rfl)) (bd_30_0i_1i _ _)) fun a32 hA33 => ?_; clear hA28 a27
 refine s7 hA33 (op_store hS31 rfl ty_30 (hA33.ev rfl) (hA33.ev rfl) (i := 2) rfl (vs := [(Value.int .i64 (max r1 o1)), (Value.int .i64 (min r2 o2))]) rfl rfl rfl (Nat.le_of_ble_eq_true rfl)) ?_
 intro _ w34 hS35 hA36; clear hA33
 have hS37 : Sep NoB w w34 [(row (vs17 4) 3 1 2 [(Value.int .i64 r1), (Value.int .i64 o1)]), (row (vs17 10) 3 1 2 [(Value.int .i64 r2), (Value.int .i64 o2)]), (blk b14 30 [(Value.int .i64 (max r1 o1)), (Value.int .i64 (min r2 o2))]), (blk b9 30 [(Value.int .i64 o1), (Value.int .i64 o2)]), (blk b4 30 [(Value.int .i64 r1), (Value.int .i64 r2)])] := hS35; clear hS35 hS31
 refine n1 ?_
 refine c_ret ?_
 refine fin_run hA36 (.inl rfl) (run_results1 hA36 rfl (.cellA rfl ty_30 (hS37.bk 2 rfl) (l := [(Value.int .i64 (max r1 o1)), (Value.int .i64 (min r2 o2))]) rfl rfl)) ?_
 exact ⟨rfl, hS37.ext⟩
theorem downF_bd {n d : Int} (hn : -100000000000 ≤ n ∧ n ≤ 100000000000) (hd : 0 < d ∧ d ≤ 100000) : -100000000001 ≤ downF n d ∧ downF n d ≤ 100000000000 := by
 have a := tdiv_bd hn hd
 by_cases h : n.tmod d < 0
 ·rw [← down_y hd.1 h]; omega
 ·rw [← down_n hd.1 h]; omega
theorem tmod_le {n : Int} (d : Int) (h : n ≤ 0) : n.tmod d ≤ 0 := by
 have := Int.tmod_nonneg d (show 0 ≤ -n by omega)
 rw [Int.neg_tmod] at this; omega
theorem rdown_y {n d : Int} (hd : 0 < d) (h : n < 0) (hne : ¬ n.tdiv d * d = n) : n.tdiv d - 1 = downF n d := by
 have e := Int.mul_tdiv_add_tmod n d
 rw [Int.mul_comm] at e
 have := tmod_le d (Int.le_of_lt h)
 exact down_y hd (by omega)
theorem rdown_n {n d : Int} (hd : 0 < d) (h : ¬ n < 0 ∨ n.tdiv d * d = n) : n.tdiv d = downF n d := by
 have e := Int.mul_tdiv_add_tmod n d
 rw [Int.mul_comm] at e
 refine down_n hd ?_
 rcases h with h | h
 ·have := Int.tmod_nonneg d (show 0 ≤ n by omega); omega
 ·omega
theorem up_ok (n d : Int) (w : World) (hn : -100000000000 ≤ n ∧ n ≤ 100000000000) (hd : 0 < d ∧ d ≤ 100000) :
  Calls Try.prog 103 #[(Value.agg #[(Value.int .i64 n), (Value.int .i64 d)])] w (Ret fun v w' => v = .int .i64 (upF n d) ∧ Ext NoB w w') := by
 refine calls_enter Try.func103 rfl fun a0 hA0 => ?_
 replace hA0 : Fr 11 [] [(0, (Value.agg #[(Value.int .i64 n), (Value.int .i64 d)]))] a0 := hA0
 have hb_ := downF_bd (n := -n) (d := d) (by omega) hd
 have hS0 : Sep NoB w w [] := Sep.start _ _
 refine m2 ?_
 refine s2 hA0 (op_box hS0 rfl (hA0.ev rfl) (cs := [(Value.int .i64 n), (Value.int .i64 d)]) rfl) ?_
 rintro a1 _ w3 ⟨b4, rfl, hS5⟩ hA2; clear hA0 hS0 a0
 refine s1 hA2 (op_assign rfl (evc _ _)) fun a6 hA7 => ?_; clear hA2 a1
 refine n4 ?_
 refine s1 hA7 (op_field rfl fd_157_0 (hA7.ev rfl)) fun a8 hA9 => ?_; clear hA7 a6
 refine s1 hA9 (op_load1 rfl ty_3 (hA9.ev rfl) (hS5.bk 0 rfl) rfl) fun a10 hA11 => ?_; clear hA9 a8
 refine s1 hA11 (op_neg rfl (hA11.ev rfl) (by omega) (by omega)) fun a12 hA13 => ?_; clear hA11 a10
 refine s1 hA13 (op_field rfl fd_157_1 (hA13.ev rfl)) fun a14 hA15 => ?_; clear hA13 a12
 refine s1 hA15 (op_load1 rfl ty_3 (hA15.ev rfl) (hS5.bk 0 rfl) rfl) fun a16 hA17 => ?_; clear hA15 a14
 refine s1 hA17 (op_build rfl (pv2 (hA17.ev rfl) (hA17.ev rfl)) (bd_157_0i_1i _ _)) fun a18 hA19 => ?_; clear hA17 a16
 refine s2 hA19 (op_call rfl en_102 (ev1 (hA19.ev rfl)) (down_ok _ _ _ (by omega) (by omega))) ?_
 rintro a20 _ w22 ⟨rfl, hE23⟩ hA21; have hS24 := hS5.step hE23; clear hE23 hA19 hS5 a18
 refine s1 hA21 (op_neg rfl (hA21.ev rfl) (by omega) (by omega)) fun a25 hA26 => ?_; clear hA21 a20
 refine s1 hA26 (op_assign rfl (hA26.ev rfl)) fun a27 hA28 => ?_; clear hA26 a25
 refine n1 ?_
 refine c_ret ?_
 refine fin_run hA28 (.inl rfl) (run_results1 hA28 rfl (.tmp rfl)) ?_
 exact ⟨rfl, hS24.ext⟩
theorem rdown_ok (n d : Int) (w : World) (hn : -100000000000 ≤ n ∧ n ≤ 100000000000) (hd : 0 < d ∧ d ≤ 100000) :
  Calls Try.prog 81 #[(Value.int .i64 n), (Value.int .i64 d)] w (Ret fun v w' => v = .int .i64 (downF n d) ∧ Ext NoB w w') := by
 refine calls_enter Try.func81 rfl fun a0 hA0 => ?_
 replace hA0 : Fr 21 [] [(0, (Value.int .i64 n)), (1, (Value.int .i64 d))] a0 := hA0
 have hq := tdiv_bd hn hd; have e_ := Int.mul_tdiv_add_tmod n d; rw [Int.mul_comm] at e_; have b_ := Int.lt_tmod_of_pos n hd.1; have c_ := Int.tmod_lt_of_pos n hd.1
 have hS0 : Sep NoB w w [] := Sep.start _ _
 refine m2 ?_
 refine s1 hA0 (op_assign rfl (evc _ _)) fun a1 hA2 => ?_; clear hA0 a0
 refine n4 ?_
 refine s1 hA2 (op_move rfl (hA2.ev rfl)) fun a3 hA4 => ?_; clear hA2 a1
 refine s1 hA4 (op_move rfl (hA4.ev rfl)) fun a5 hA6 => ?_; clear hA4 a3
 refine s1 hA6 (op_quo rfl (hA6.ev rfl) (hA6.ev rfl) (by omega) (by omega) (by omega)) fun a7 hA8 => ?_; clear hA6 a5
 refine s1 hA8 (op_assign rfl (hA8.ev rfl)) fun a9 hA10 => ?_; clear hA8 a7
 refine n2 ?_
 refine m2 ?_
 refine s1 hA10 (op_move rfl (hA10.ev rfl)) fun a11 hA12 => ?_; clear hA10 a9
 refine s1 hA12 (op_lss rfl (hA12.ev rfl) (evc _ _)) fun a13 hA14 => ?_; clear hA12 a11
 refine s1 hA14 (op_move rfl (hA14.ev rfl)) fun a15 hA16 => ?_; clear hA14 a13
 by_cases hb17 : n < 0
 ·skip
  rw [decide_eq_true hb17] at hA16
  refine s5 hA16 (op_move rfl (hA16.ev rfl)) fun a18 hA19 => ?_; clear hA16 a15
  refine s5 hA19 (op_move rfl (hA19.ev rfl)) fun a20 hA21 => ?_; clear hA19 a18
  refine s5 hA21 (op_mul rfl (hA21.ev rfl) (hA21.ev rfl) (by omega) (by omega)) fun a22 hA23 => ?_; clear hA21 a20
  refine s5 hA23 (op_move rfl (hA23.ev rfl)) fun a24 hA25 => ?_; clear hA23 a22
  refine s5 hA25 (op_neq rfl (hA25.ev rfl) (hA25.ev rfl)) fun a26 hA27 => ?_; clear hA25 a24
  refine s1 hA27 (op_pick_t rfl (hA27.ev rfl) (hA27.ev rfl)) fun a28 hA29 => ?_; clear hA27 a26
  refine n1 ?_
  by_cases hb30 : (((n).tdiv d) * d) = n
  ·skip
   rw [decide_eq_true hb30] at hA29
   refine c_false hA29 rfl ?_
   refine c_skip ?_
   refine then_n ?_
   refine c_seq ?_
   have hA31 := hA29.as [(5, (Value.int .i64 ((n).tdiv d)))] rfl; clear hA29
   refine c_region ?_
   refine s1 hA31 (op_move rfl (hA31.ev rfl)) fun a32 hA33 => ?_; clear hA31 a28
   refine s1 hA33 (op_assign rfl (hA33.ev rfl)) fun a34 hA35 => ?_; clear hA33 a32
   refine n1 ?_
   refine c_ret ?_
   refine fin_run hA35 (.inl rfl) (run_results1 hA35 rfl (.tmp rfl)) ?_
   exact ⟨ret_int (by first | exact rdown_y hd.1 (by assumption) (by assumption) | exact rdown_n hd.1 (.inl (by assumption)) | exact rdown_n hd.1 (.inr (by assumption))), hS0.ext⟩
  ·skip
   rw [decide_eq_false hb30] at hA29
   refine c_true hA29 rfl ?_
   have hA36 := hA29.as [(5, (Value.int .i64 ((n).tdiv d)))] rfl; clear hA29
   refine c_region ?_
   refine s1 hA36 (op_move rfl (hA36.ev rfl)) fun a37 hA38 => ?_; clear hA36 a28
   refine s1 hA38 (op_sub rfl (hA38.ev rfl) (evc _ _) (by omega) (by omega)) fun a39 hA40 => ?_; clear hA38 a37
   refine s1 hA40 (op_assign rfl (hA40.ev rfl)) fun a41 hA42 => ?_; clear hA40 a39
   refine n4 ?_
   refine s1 hA42 (op_move rfl (hA42.ev rfl)) fun a43 hA44 => ?_; clear hA42 a41
   refine s1 hA44 (op_assign rfl (hA44.ev rfl)) fun a45 hA46 => ?_; clear hA44 a43
   refine n1 ?_
   refine c_ret ?_
   refine fin_run hA46 (.inl rfl) (run_results1 hA46 rfl (.tmp rfl)) ?_
   exact ⟨ret_int (by first | exact rdown_y hd.1 (by assumption) (by assumption) | exact rdown_n hd.1 (.inl (by assumption)) | exact rdown_n hd.1 (.inr (by assumption))), hS0.ext⟩
 ·skip
  rw [decide_eq_false hb17] at hA16
  refine s3 hA16 fun a47 hA48 => ?_; clear hA16 a15
  refine s3 hA48 fun a49 hA50 => ?_; clear hA48 a47
  refine s3 hA50 fun a51 hA52 => ?_; clear hA50 a49
  refine s3 hA52 fun a53 hA54 => ?_; clear hA52 a51
  refine s3 hA54 fun a55 hA56 => ?_; clear hA54 a53
  refine s1 hA56 (op_pick_f rfl (hA56.ev rfl) (evc _ _)) fun a57 hA58 => ?_; clear hA56 a55
  refine n1 ?_
  refine c_false hA58 rfl ?_
  refine c_skip ?_
  refine then_n ?_
  refine c_seq ?_
  have hA59 := hA58.as [(5, (Value.int .i64 ((n).tdiv d)))] rfl; clear hA58
  refine c_region ?_
  refine s1 hA59 (op_move rfl (hA59.ev rfl)) fun a60 hA61 => ?_; clear hA59 a57
  refine s1 hA61 (op_assign rfl (hA61.ev rfl)) fun a62 hA63 => ?_; clear hA61 a60
  refine n1 ?_
  refine c_ret ?_
  refine fin_run hA63 (.inl rfl) (run_results1 hA63 rfl (.tmp rfl)) ?_
  exact ⟨ret_int (by first | exact rdown_y hd.1 (by assumption) (by assumption) | exact rdown_n hd.1 (.inl (by assumption)) | exact rdown_n hd.1 (.inr (by assumption))), hS0.ext⟩
theorem rup_ok (n d : Int) (w : World) (hn : -100000000000 ≤ n ∧ n ≤ 100000000000) (hd : 0 < d ∧ d ≤ 100000) :
  Calls Try.prog 82 #[(Value.int .i64 n), (Value.int .i64 d)] w (Ret fun v w' => v = .int .i64 (upF n d) ∧ Ext NoB w w') := by
 refine calls_enter Try.func82 rfl fun a0 hA0 => ?_
 replace hA0 : Fr 10 [] [(0, (Value.int .i64 n)), (1, (Value.int .i64 d))] a0 := hA0
 have hb_ := downF_bd (n := -n) (d := d) (by omega) hd
 have hS0 : Sep NoB w w [] := Sep.start _ _
 refine m2 ?_
 refine s1 hA0 (op_assign rfl (evc _ _)) fun a1 hA2 => ?_; clear hA0 a0
 refine n4 ?_
 refine s1 hA2 (op_move rfl (hA2.ev rfl)) fun a3 hA4 => ?_; clear hA2 a1
 refine s1 hA4 (op_neg rfl (hA4.ev rfl) (by omega) (by omega)) fun a5 hA6 => ?_; clear hA4 a3
 refine s1 hA6 (op_move rfl (hA6.ev rfl)) fun a7 hA8 => ?_; clear hA6 a5
 refine s2 hA8 (op_call rfl en_81 (ev2 (hA8.ev rfl) (hA8.ev rfl)) (rdown_ok _ _ _ (by omega) (by omega))) ?_
 rintro a9 _ w11 ⟨rfl, hE12⟩ hA10; have hS13 := hS0.step hE12; clear hE12 hA8 hS0 a7
 refine s1 hA10 (op_neg rfl (hA10.ev rfl) (by omega) (by omega)) fun a14 hA15 => ?_; clear hA10 a9
 refine s1 hA15 (op_assign rfl (hA15.ev rfl)) fun a16 hA17 => ?_; clear hA15 a14
 refine n1 ?_
 refine c_ret ?_
 refine fin_run hA17 (.inl rfl) (run_results1 hA17 rfl (.tmp rfl)) ?_
 exact ⟨rfl, hS13.ext⟩
end Go.Proofs.Ytohgladndklciaa

namespace Go.Proofs.Ytohgladndklciaa
open Go.RowKit Go.Shelf Go.Eng Go.Hard
theorem fd_103_1 : fldK Try.prog 103 1 = some 1 := by kernel_rfl
theorem ty_101 : tyK Try.prog 101 = some (false, 1) := by kernel_rfl
theorem un_101 : Try.prog.underlying 101 = some (.slice 100) := by kernel_rfl
theorem ty_100 : tyK Try.prog 100 = some (true, 3) := by kernel_rfl
theorem ze_100 : (Try.prog.info? 100).bind (·.zero) = some (Value.agg #[(Value.int .i64 0), (Value.int .i64 0), (Value.int .i64 0)]) := by kernel_rfl
theorem fd_100_1 : fldK Try.prog 100 1 = some 2 := by kernel_rfl
theorem fd_100_0 : fldK Try.prog 100 0 = some 0 := by kernel_rfl
theorem en_87 : ∀ args w, (callFunc 87 args).run Try.prog w = .ok (.enter 87 args) w := enters_of Try.func87 (by kernel_rfl) rfl
theorem fd_61_1 : fldK Try.prog 61 1 = some 1 := by kernel_rfl
theorem ty_59 : tyK Try.prog 59 = some (false, 1) := by kernel_rfl
theorem un_59 : Try.prog.underlying 59 = some (.slice 63) := by kernel_rfl
theorem ty_63 : tyK Try.prog 63 = some (true, 3) := by kernel_rfl
theorem fd_63_1 : fldK Try.prog 63 1 = some 2 := by kernel_rfl
theorem fd_63_0 : fldK Try.prog 63 0 = some 0 := by kernel_rfl
theorem ty_61 : tyK Try.prog 61 = some (true, 2) := by kernel_rfl
theorem bias_ok (n : Int) (m : MacD) (vk : Value) (w : World) (hk : SlAt w vk 3 m.blocks.length (trips m.blocks)) (hm : MacV n m) (hbl : m.blocks.length ≤ 1000000) :
  Calls Try.prog 67 #[(Value.agg #[(Value.int .i64 m.scale), vk])] w (Ret fun v w' => v = .agg #[.int .i64 (biasF m).1, .int .i64 (biasF m).2] ∧ Ext NoB w w') := by
 refine calls_enter Try.func67 rfl fun a0 hA0 => ?_
 replace hA0 : Fr 31 [] [(0, (Value.agg #[(Value.int .i64 m.scale), vk]))] a0 := hA0
 have hS0 : Sep NoB w w [(sl vk 3 m.blocks.length (trips m.blocks))] := sep_ro ⟨rfl, hk, trivial⟩
 refine m2 ?_
 refine s2 hA0 (op_box hS0 rfl (hA0.ev rfl) (cs := [(Value.int .i64 m.scale), vk]) rfl) ?_
 rintro a1 _ w3 ⟨b4, rfl, hS5⟩ hA2; clear hA0 hS0 a0
 refine s2 hA2 (op_alloc hS5 rfl ze_30 (cs := [(Value.int .i64 0), (Value.int .i64 0)]) rfl) ?_
 rintro a6 _ w8 ⟨b9, rfl, hS10⟩ hA7; clear hA2 hS5 a1
 refine n4 ?_
 refine s1 hA7 (op_build rfl (pv2 (evc _ _) (evc _ _)) (bd_30_0i_1i _ _)) fun a11 hA12 => ?_; clear hA7 a6
 refine s2 hA12 (op_alloc hS10 rfl ze_30 (cs := [(Value.int .i64 0), (Value.int .i64 0)]) rfl) ?_
 rintro a13 _ w15 ⟨b16, rfl, hS17⟩ hA14; clear hA12 hS10 a11
 refine s7 hA14 (op_store hS17 rfl ty_30 (hA14.ev rfl) (hA14.ev rfl) (i := 0) rfl (vs := [(Value.int .i64 (-100000)), (Value.int .i64 100000)]) rfl rfl rfl (Nat.le_of_ble_eq_true rfl)) ?_
 intro _ w18 hS19 hA20; clear hA14
 have hS21 : Sep NoB w w18 [(blk b16 30 [(Value.int .i64 (-100000)), (Value.int .i64 100000)]), (blk b9 30 [(Value.int .i64 0), (Value.int .i64 0)]), (blk b4 103 [(Value.int .i64 m.scale), vk]), (sl vk 3 m.blocks.length (trips m.blocks))] := hS19; clear hS19 hS17
 refine n2 ?_
 refine m2 ?_
 refine s1 hA20 (op_field rfl fd_103_1 (hA20.ev rfl)) fun a22 hA23 => ?_; clear hA20 a13
 refine s1 hA23 (op_load1 rfl ty_101 (hA23.ev rfl) (hS21.bk 2 rfl) rfl) fun a24 hA25 => ?_; clear hA23 a22
 refine s1 hA25 (op_lenS rfl un_101 (hA25.ev rfl) (hS21.sk 3 rfl)) fun a26 hA27 => ?_; clear hA25 a24
 refine s1 hA27 (op_move rfl (evc _ _)) fun a28 hA29 => ?_; clear hA27 a26
 refine n1 ?_
 refine c_block ?_
 have hA30 := hA29.as [(10, (Value.int .i64 0)), (9, (Value.int .i64 (m.blocks.length : Int))), (8, vk), (3, (bptr b16 0)), (2, (bptr b9 0))] rfl; clear hA29
 refine c_loop (G := Nat) (fun (k : Nat) a_ w_ => Fr 31 [] [(10, (Value.int .i64 (k : Int))), (9, (Value.int .i64 (m.blocks.length : Int))), (8, vk), (3, (bptr b16 0)), (2, (bptr b9 0))] a_ ∧ Sep NoB w w_ [(blk b16 30 [(Value.int .i64 ((biasU m.blocks k).1)), (Value.int .i64 ((biasU m.blocks k).2))]), (blk b9 30 [(Value.int .i64 0), (Value.int .i64 0)]), (blk b4 103 [(Value.int .i64 m.scale), vk]), (sl vk 3 m.blocks.length (trips m.blocks))] ∧ (k ≤ m.blocks.length)) (fun k => m.blocks.length - k) 0 ⟨hA30.as _ rfl, hS21, by omega⟩ ?_
 clear hA30 hS21 a28
 rintro k a31 w33 ⟨hA32, hS34, hk1⟩
 refine m2 ?_
 refine s1 hA32 (op_lss rfl (hA32.ev rfl) (hA32.ev rfl)) fun a35 hA36 => ?_; clear hA32 a31
 refine n2 ?_
 by_cases hb37 : (k : Int) < (m.blocks.length : Int)
 ·skip
  rw [decide_eq_true hb37] at hA36
  have hbk := hm.blocks k (by omega)
  refine c_true hA36 rfl ?_
  refine c_skip ?_
  refine then_n ?_
  refine c_seq ?_
  refine c_block ?_
  refine m2 ?_
  refine s1 hA36 (op_indexS rfl un_101 ty_100 (hA36.ev rfl) (i := k) (hA36.ev rfl) (hS34.sk 3 rfl) (by decide) (by omega)) fun a38 hA39 => ?_; clear hA36 a35
  refine s1 hA39 (op_loadAE rfl ty_100 (hA39.ev rfl) (hS34.sk 3 rfl) (trips_all (by omega)) rfl (by decide)) fun a40 hA41 => ?_; clear hA39 a38
  refine s2 hA41 (op_alloc hS34 rfl ze_100 (cs := [(Value.int .i64 0), (Value.int .i64 0), (Value.int .i64 0)]) rfl) ?_
  rintro a42 _ w44 ⟨b45, rfl, hS46⟩ hA43; clear hA41 hS34 a40
  refine s7 hA43 (op_store hS46 rfl ty_100 (hA43.ev rfl) (hA43.ev rfl) (i := 0) rfl (vs := [(Value.int .i64 ((m.blocks.getD k (0, 0, 0)).1)), (Value.int .i64 ((m.blocks.getD k (0, 0, 0)).2.1)), (Value.int .i64 ((m.blocks.getD k (0, 0, 0)).2.2))]) rfl rfl rfl (Nat.le_of_ble_eq_true rfl)) ?_
  intro _ w47 hS48 hA49; clear hA43
  have hS50 : Sep NoB w w47 [(blk b45 100 [(Value.int .i64 ((m.blocks.getD k (0, 0, 0)).1)), (Value.int .i64 ((m.blocks.getD k (0, 0, 0)).2.1)), (Value.int .i64 ((m.blocks.getD k (0, 0, 0)).2.2))]), (blk b16 30 [(Value.int .i64 ((biasU m.blocks k).1)), (Value.int .i64 ((biasU m.blocks k).2))]), (blk b9 30 [(Value.int .i64 0), (Value.int .i64 0)]), (blk b4 103 [(Value.int .i64 m.scale), vk]), (sl vk 3 m.blocks.length (trips m.blocks))] := hS48; clear hS48 hS46
  refine n3 ?_
  refine s1 hA49 (op_loadA rfl ty_30 (hA49.ev rfl) (hS50.bk 1 rfl) (l := [(Value.int .i64 ((biasU m.blocks k).1)), (Value.int .i64 ((biasU m.blocks k).2))]) rfl rfl) fun a51 hA52 => ?_; clear hA49 a42
  refine s1 hA52 (op_field rfl fd_100_1 (hA52.ev rfl)) fun a53 hA54 => ?_; clear hA52 a51
  refine s1 hA54 (op_load1 rfl ty_3 (hA54.ev rfl) (hS50.bk 0 rfl) rfl) fun a55 hA56 => ?_; clear hA54 a53
  refine s1 hA56 (op_field rfl fd_100_0 (hA56.ev rfl)) fun a57 hA58 => ?_; clear hA56 a55
  refine s1 hA58 (op_field rfl fd_30_1 (hA58.ev rfl)) fun a59 hA60 => ?_; clear hA58 a57
  refine s1 hA60 (op_load1 rfl ty_3 (hA60.ev rfl) (hS50.bk 0 rfl) rfl) fun a61 hA62 => ?_; clear hA60 a59
  refine s1 hA62 (op_sub rfl (hA62.ev rfl) (hA62.ev rfl) (by omega) (by omega)) fun a63 hA64 => ?_; clear hA62 a61
  refine s1 hA64 (op_field rfl fd_100_1 (hA64.ev rfl)) fun a65 hA66 => ?_; clear hA64 a63
  refine s1 hA66 (op_load1 rfl ty_3 (hA66.ev rfl) (hS50.bk 0 rfl) rfl) fun a67 hA68 => ?_; clear hA66 a65
  refine s1 hA68 (op_field rfl fd_100_0 (hA68.ev rfl)) fun a69 hA70 => ?_; clear hA68 a67
  refine s1 hA70 (op_field rfl fd_30_0 (hA70.ev rfl)) fun a71 hA72 => ?_; clear hA70 a69
  refine s1 hA72 (op_load1 rfl ty_3 (hA72.ev rfl) (hS50.bk 0 rfl) rfl) fun a73 hA74 => ?_; clear hA72 a71
  refine s1 hA74 (op_sub rfl (hA74.ev rfl) (hA74.ev rfl) (by omega) (by omega)) fun a75 hA76 => ?_; clear hA74 a73
  refine s1 hA76 (op_build rfl (pv2 (hA76.ev rfl) (hA76.ev rfl)) (bd_30_0i_1i _ _)) fun a77 hA78 => ?_; clear hA76 a75
  refine s2 hA78 (op_call rfl en_87 (ev2 (hA78.ev rfl) (hA78.ev rfl)) (cut_ok _ _ _ _ _)) ?_
  rintro a79 _ w81 ⟨rfl, hE82⟩ hA80; have hS83 := hS50.step hE82; clear hE82 hA78 hS50 a77
  refine s7 hA80 (op_store hS83 rfl ty_30 (hA80.ev rfl) (hA80.ev rfl) (i := 1) rfl (vs := [(Value.int .i64 ((cutR ((biasU m.blocks k).1, (biasU m.blocks k).2) (((m.blocks.getD k (0, 0, 0)).2.2) - ((m.blocks.getD k (0, 0, 0)).2.1), ((m.blocks.getD k (0, 0, 0)).2.2) - ((m.blocks.getD k (0, 0, 0)).1))).1)), (Value.int .i64 ((cutR ((biasU m.blocks k).1, (biasU m.blocks k).2) (((m.blocks.getD k (0, 0, 0)).2.2) - ((m.blocks.getD k (0, 0, 0)).2.1), ((m.blocks.getD k (0, 0, 0)).2.2) - ((m.blocks.getD k (0, 0, 0)).1))).2))]) rfl rfl rfl (Nat.le_of_ble_eq_true rfl)) ?_
  intro _ w84 hS85 hA86; clear hA80
  have hS87 : Sep NoB w w84 [(blk b45 100 [(Value.int .i64 ((m.blocks.getD k (0, 0, 0)).1)), (Value.int .i64 ((m.blocks.getD k (0, 0, 0)).2.1)), (Value.int .i64 ((m.blocks.getD k (0, 0, 0)).2.2))]), (blk b16 30 [(Value.int .i64 ((cutR ((biasU m.blocks k).1, (biasU m.blocks k).2) (((m.blocks.getD k (0, 0, 0)).2.2) - ((m.blocks.getD k (0, 0, 0)).2.1), ((m.blocks.getD k (0, 0, 0)).2.2) - ((m.blocks.getD k (0, 0, 0)).1))).1)), (Value.int .i64 ((cutR ((biasU m.blocks k).1, (biasU m.blocks k).2) (((m.blocks.getD k (0, 0, 0)).2.2) - ((m.blocks.getD k (0, 0, 0)).2.1), ((m.blocks.getD k (0, 0, 0)).2.2) - ((m.blocks.getD k (0, 0, 0)).1))).2))]), (blk b9 30 [(Value.int .i64 0), (Value.int .i64 0)]), (blk b4 103 [(Value.int .i64 m.scale), vk]), (sl vk 3 m.blocks.length (trips m.blocks))] := hS85; clear hS85 hS83
  refine wl_nil ?_
  refine blk_n ?_
  refine then_n ?_
  have hA88 := hA86.as [(10, (Value.int .i64 (k : Int))), (9, (Value.int .i64 (m.blocks.length : Int))), (8, vk), (3, (bptr b16 0)), (2, (bptr b9 0))] rfl; clear hA86
  refine c_region ?_
  refine s1 hA88 (op_add rfl (hA88.ev rfl) (evc _ _) (by omega) (by omega)) fun a89 hA90 => ?_; clear hA88 a79
  refine s1 hA90 (op_move rfl (hA90.ev rfl)) fun a91 hA92 => ?_; clear hA90 a89
  refine wl_nil ?_
  have hS93 : Sep NoB w w84 [(blk b16 30 [(Value.int .i64 ((cutR ((biasU m.blocks k).1, (biasU m.blocks k).2) (((m.blocks.getD k (0, 0, 0)).2.2) - ((m.blocks.getD k (0, 0, 0)).2.1), ((m.blocks.getD k (0, 0, 0)).2.2) - ((m.blocks.getD k (0, 0, 0)).1))).1)), (Value.int .i64 ((cutR ((biasU m.blocks k).1, (biasU m.blocks k).2) (((m.blocks.getD k (0, 0, 0)).2.2) - ((m.blocks.getD k (0, 0, 0)).2.1), ((m.blocks.getD k (0, 0, 0)).2.2) - ((m.blocks.getD k (0, 0, 0)).1))).2))]), (blk b9 30 [(Value.int .i64 0), (Value.int .i64 0)]), (blk b4 103 [(Value.int .i64 m.scale), vk]), (sl vk 3 m.blocks.length (trips m.blocks))] := hS87.keep [1, 2, 3, 4] (by decide) _ rfl rfl; clear hS87
  exact then_n ⟨k + 1, ⟨hA92.as _ rfl, hS93, by omega⟩, by omega⟩
 ·skip
  rw [decide_eq_false hb37] at hA36
  refine c_false hA36 rfl ?_
  refine c_exit ?_
  refine then_exit ?_
  refine then_exit ?_
  refine blk_hit ?_
  refine then_n ?_
  refine m2 ?_
  refine s1 hA36 (op_loadA rfl ty_30 (hA36.ev rfl) (hS34.bk 0 rfl) (l := [(Value.int .i64 ((biasU m.blocks k).1)), (Value.int .i64 ((biasU m.blocks k).2))]) rfl rfl) fun a94 hA95 => ?_; clear hA36 a35
  refine s7 hA95 (op_store hS34 rfl ty_30 (hA95.ev rfl) (hA95.ev rfl) (i := 1) rfl (vs := [(Value.int .i64 ((biasU m.blocks k).1)), (Value.int .i64 ((biasU m.blocks k).2))]) rfl rfl rfl (Nat.le_of_ble_eq_true rfl)) ?_
  intro _ w96 hS97 hA98; clear hA95
  have hS99 : Sep NoB w w96 [(blk b16 30 [(Value.int .i64 ((biasU m.blocks k).1)), (Value.int .i64 ((biasU m.blocks k).2))]), (blk b9 30 [(Value.int .i64 ((biasU m.blocks k).1)), (Value.int .i64 ((biasU m.blocks k).2))]), (blk b4 103 [(Value.int .i64 m.scale), vk]), (sl vk 3 m.blocks.length (trips m.blocks))] := hS97; clear hS97 hS34
  refine n1 ?_
  refine c_ret ?_
  refine fin_run hA98 (.inl rfl) (run_results1 hA98 rfl (.cellA rfl ty_30 (hS99.bk 1 rfl) (l := [(Value.int .i64 ((biasU m.blocks k).1)), (Value.int .i64 ((biasU m.blocks k).2))]) rfl rfl)) ?_
  exact ⟨by unfold biasF; rw [show m.blocks.length = k by omega], hS99.ext⟩
end Go.Proofs.Ytohgladndklciaa

namespace Go.Proofs.Ytohgladndklciaa
open Go.RowKit Go.Shelf Go.Eng Go.Hard
theorem un_104 : Try.prog.underlying 104 = some (.slice 107) := by kernel_rfl
theorem ty_107 : tyK Try.prog 107 = some (true, 2) := by kernel_rfl
theorem en_119 : ∀ args w, (callFunc 119 args).run Try.prog w = .ok (.enter 119 args) w := enters_of Try.func119 (by kernel_rfl) rfl
theorem ty_149 : tyK Try.prog 149 = some (false, 1) := by kernel_rfl
theorem en_112 : ∀ args w, (callFunc 112 args).run Try.prog w = .ok (.enter 112 args) w := enters_of Try.func112 (by kernel_rfl) rfl
theorem en_111 : ∀ args w, (callFunc 111 args).run Try.prog w = .ok (.enter 111 args) w := enters_of Try.func111 (by kernel_rfl) rfl
theorem en_120 : ∀ args w, (callFunc 120 args).run Try.prog w = .ok (.enter 120 args) w := enters_of Try.func120 (by kernel_rfl) rfl
theorem ty_151 : tyK Try.prog 151 = some (false, 1) := by kernel_rfl
theorem en_114 : ∀ args w, (callFunc 114 args).run Try.prog w = .ok (.enter 114 args) w := enters_of Try.func114 (by kernel_rfl) rfl
theorem en_113 : ∀ args w, (callFunc 113 args).run Try.prog w = .ok (.enter 113 args) w := enters_of Try.func113 (by kernel_rfl) rfl
theorem un_53 : Try.prog.underlying 53 = some (.slice 98) := by kernel_rfl
theorem ty_98 : tyK Try.prog 98 = some (true, 2) := by kernel_rfl
theorem en_117 : ∀ args w, (callFunc 117 args).run Try.prog w = .ok (.enter 117 args) w := enters_of Try.func117 (by kernel_rfl) rfl
theorem ty_141 : tyK Try.prog 141 = some (false, 1) := by kernel_rfl
theorem en_107 : ∀ args w, (callFunc 107 args).run Try.prog w = .ok (.enter 107 args) w := enters_of Try.func107 (by kernel_rfl) rfl
theorem en_106 : ∀ args w, (callFunc 106 args).run Try.prog w = .ok (.enter 106 args) w := enters_of Try.func106 (by kernel_rfl) rfl
theorem en_115 : ∀ args w, (callFunc 115 args).run Try.prog w = .ok (.enter 115 args) w := enters_of Try.func115 (by kernel_rfl) rfl
theorem ty_112 : tyK Try.prog 112 = some (false, 1) := by kernel_rfl
theorem en_100 : ∀ args w, (callFunc 100 args).run Try.prog w = .ok (.enter 100 args) w := enters_of Try.func100 (by kernel_rfl) rfl
theorem en_99 : ∀ args w, (callFunc 99 args).run Try.prog w = .ok (.enter 99 args) w := enters_of Try.func99 (by kernel_rfl) rfl
theorem un_50 : Try.prog.underlying 50 = some (.slice 30) := by kernel_rfl
theorem en_118 : ∀ args w, (callFunc 118 args).run Try.prog w = .ok (.enter 118 args) w := enters_of Try.func118 (by kernel_rfl) rfl
theorem un_34 : Try.prog.underlying 34 = some (.slice 106) := by kernel_rfl
theorem ty_106 : tyK Try.prog 106 = some (true, 5) := by kernel_rfl
theorem en_109 : ∀ args w, (callFunc 109 args).run Try.prog w = .ok (.enter 109 args) w := enters_of Try.func109 (by kernel_rfl) rfl
theorem ty_127 : tyK Try.prog 127 = some (false, 1) := by kernel_rfl
theorem en_90 : ∀ args w, (callFunc 90 args).run Try.prog w = .ok (.enter 90 args) w := enters_of Try.func90 (by kernel_rfl) rfl
theorem en_89 : ∀ args w, (callFunc 89 args).run Try.prog w = .ok (.enter 89 args) w := enters_of Try.func89 (by kernel_rfl) rfl
theorem un_35 : Try.prog.underlying 35 = some (.slice 103) := by kernel_rfl
theorem ty_103 : tyK Try.prog 103 = some (true, 2) := by kernel_rfl
theorem en_110 : ∀ args w, (callFunc 110 args).run Try.prog w = .ok (.enter 110 args) w := enters_of Try.func110 (by kernel_rfl) rfl
theorem ty_129 : tyK Try.prog 129 = some (false, 1) := by kernel_rfl
theorem en_92 : ∀ args w, (callFunc 92 args).run Try.prog w = .ok (.enter 92 args) w := enters_of Try.func92 (by kernel_rfl) rfl
theorem en_91 : ∀ args w, (callFunc 91 args).run Try.prog w = .ok (.enter 91 args) w := enters_of Try.func91 (by kernel_rfl) rfl
theorem indexf_row (xs : List (Int × Int)) (v : Value) (fid : Nat) (fs cs : Array Value) (p : Nat → Bool) (w : World) (hv : SlAt w v 2 xs.length (pairs xs)) (hlen : xs.length ≤ 1000000) (hf : Asks Try.prog w fid fs cs xs.length (fun i => (Value.agg #[(Value.int .i64 ((xs.getD i (0, 0)).1)), (Value.int .i64 ((xs.getD i (0, 0)).2))])) p) :
  Calls Try.prog 119 #[v, (Value.func (.func fid) fs cs)] w (Ret fun v w' => v = .int .i64 (fidx p xs.length) ∧ Ext NoB w w') := by
 refine calls_enter Try.func119 rfl fun a0 hA0 => ?_
 replace hA0 : Fr 19 [] [(0, v), (1, (Value.func (.func fid) fs cs))] a0 := hA0
 have hS0 : Sep NoB w w [(sl v 2 xs.length (pairs xs))] := sep_ro ⟨rfl, hv, trivial⟩
 refine m2 ?_
 refine s1 hA0 (op_assign rfl (evc _ _)) fun a1 hA2 => ?_; clear hA0 a0
 refine n2 ?_
 refine m2 ?_
 refine s1 hA2 (op_move rfl (hA2.ev rfl)) fun a3 hA4 => ?_; clear hA2 a1
 refine s1 hA4 (op_lenS rfl un_104 (hA4.ev rfl) (hS0.ok 0 _ rfl)) fun a5 hA6 => ?_; clear hA4 a3
 refine s1 hA6 (op_move rfl (evc _ _)) fun a7 hA8 => ?_; clear hA6 a5
 refine n1 ?_
 refine c_block ?_
 have hA9 := hA8.as [(8, (Value.int .i64 0)), (7, (Value.int .i64 (xs.length : Int))), (0, v), (1, (Value.func (.func fid) fs cs))] rfl; clear hA8
 refine c_loop (G := Nat) (fun (k : Nat) a_ w_ => Fr 19 [] [(8, (Value.int .i64 (k : Int))), (7, (Value.int .i64 (xs.length : Int))), (0, v), (1, (Value.func (.func fid) fs cs))] a_ ∧ Sep NoB w w_ [(sl v 2 xs.length (pairs xs))] ∧ (k ≤ xs.length) ∧ (∀ i, i < k → p i = false)) (fun k => xs.length - k) 0 ⟨hA9.as _ rfl, hS0, by omega, by omega⟩ ?_
 clear hA9 hS0 a7
 rintro k a10 w12 ⟨hA11, hS13, hk, hn⟩
 refine m2 ?_
 refine s1 hA11 (op_lss rfl (hA11.ev rfl) (hA11.ev rfl)) fun a14 hA15 => ?_; clear hA11 a10
 refine n2 ?_
 by_cases hb16 : (k : Int) < (xs.length : Int)
 ·skip
  rw [decide_eq_true hb16] at hA15
  refine c_true hA15 rfl ?_
  refine c_skip ?_
  refine then_n ?_
  refine c_seq ?_
  refine c_block ?_
  refine m2 ?_
  refine s1 hA15 (op_move rfl (hA15.ev rfl)) fun a17 hA18 => ?_; clear hA15 a14
  refine s1 hA18 (op_assign rfl (hA18.ev rfl)) fun a19 hA20 => ?_; clear hA18 a17
  refine n4 ?_
  refine s1 hA20 (op_move rfl (hA20.ev rfl)) fun a21 hA22 => ?_; clear hA20 a19
  refine s1 hA22 (op_move rfl (hA22.ev rfl)) fun a23 hA24 => ?_; clear hA22 a21
  refine s1 hA24 (op_move rfl (hA24.ev rfl)) fun a25 hA26 => ?_; clear hA24 a23
  refine s1 hA26 (op_indexS rfl un_104 ty_107 (hA26.ev rfl) (i := k) (hA26.ev rfl) (hS13.ok 0 _ rfl) (by decide) (by omega)) fun a27 hA28 => ?_; clear hA26 a25
  refine s1 hA28 (op_loadAE rfl ty_107 (hA28.ev rfl) (hS13.ok 0 _ rfl) (pairs_all (by omega)) rfl (by decide)) fun a29 hA30 => ?_; clear hA28 a27
  refine s2 hA30 (op_callv rfl (hA30.ev rfl) hf.1 (ev1 (hA30.ev rfl)) (hf.2 k (by omega) _ hS13.ext)) ?_
  rintro a31 _ w33 ⟨rfl, hE34⟩ hA32; have hS35 := hS13.step hE34; clear hA30 hS13 a29
  refine n1 ?_
  rcases Bool.eq_false_or_eq_true (p k) with hb36 | hb36
  ·skip
   rw [hb36] at hA32
   refine c_true hA32 rfl ?_
   refine c_seq ?_
   have hA37 := hA32.as [(5, (Value.int .i64 (k : Int)))] rfl; clear hA32
   refine c_region ?_
   refine s1 hA37 (op_move rfl (hA37.ev rfl)) fun a38 hA39 => ?_; clear hA37 a31
   refine s1 hA39 (op_assign rfl (hA39.ev rfl)) fun a40 hA41 => ?_; clear hA39 a38
   refine n1 ?_
   refine c_ret ?_
   refine blk_ret ?_
   refine then_ret ?_
   refine then_ret ?_
   refine blk_ret ?_
   refine then_ret ?_
   refine fin_run hA41 (.inl rfl) (run_results1 hA41 rfl (.tmp rfl)) ?_
   exact ⟨by first | rw [fidx_hit (by omega) hn (by assumption)] | rw [fidx_miss (fun i hi => hn i (by omega))], hS35.ext⟩
  ·skip
   rw [hb36] at hA32
   refine c_false hA32 rfl ?_
   refine c_skip ?_
   refine blk_n ?_
   refine then_n ?_
   have hA42 := hA32.as [(8, (Value.int .i64 (k : Int))), (7, (Value.int .i64 (xs.length : Int))), (0, v), (1, (Value.func (.func fid) fs cs))] rfl; clear hA32
   refine c_region ?_
   refine s1 hA42 (op_add rfl (hA42.ev rfl) (evc _ _) (by omega) (by omega)) fun a43 hA44 => ?_; clear hA42 a31
   refine s1 hA44 (op_move rfl (hA44.ev rfl)) fun a45 hA46 => ?_; clear hA44 a43
   refine wl_nil ?_
   exact then_n ⟨k + 1, ⟨hA46.as _ rfl, hS35, by omega, (fun i hi => by rcases Nat.lt_succ_iff_lt_or_eq.1 hi with h | h; exact hn i h; subst h; assumption)⟩, by omega⟩
 ·skip
  rw [decide_eq_false hb16] at hA15
  refine c_false hA15 rfl ?_
  refine c_exit ?_
  refine then_exit ?_
  refine then_exit ?_
  refine blk_hit ?_
  refine then_n ?_
  refine m2 ?_
  refine s1 hA15 (op_assign rfl (evc _ _)) fun a47 hA48 => ?_; clear hA15 a14
  refine n1 ?_
  refine c_ret ?_
  refine fin_run hA48 (.inl rfl) (run_results1 hA48 rfl (.tmp rfl)) ?_
  exact ⟨by first | rw [fidx_hit (by omega) hn (by assumption)] | rw [fidx_miss (fun i hi => hn i (by omega))], hS13.ext⟩
theorem contf_row (xs : List (Int × Int)) (v : Value) (fid : Nat) (fs cs : Array Value) (p : Nat → Bool) (w : World) (hv : SlAt w v 2 xs.length (pairs xs)) (hlen : xs.length ≤ 1000000) (hf : Asks Try.prog w fid fs cs xs.length (fun i => (Value.agg #[(Value.int .i64 ((xs.getD i (0, 0)).1)), (Value.int .i64 ((xs.getD i (0, 0)).2))])) p) :
  Calls Try.prog 111 #[v, (Value.func (.func fid) fs cs)] w (Ret fun v w' => v = .bool ((List.range xs.length).any p) ∧ Ext NoB w w') := by
 refine calls_enter Try.func111 rfl fun a0 hA0 => ?_
 replace hA0 : Fr 9 [] [(0, v), (1, (Value.func (.func fid) fs cs))] a0 := hA0
 have hS0 : Sep NoB w w [(sl v 2 xs.length (pairs xs))] := sep_ro ⟨rfl, hv, trivial⟩
 refine m2 ?_
 refine s1 hA0 (op_assign rfl (evc _ _)) fun a1 hA2 => ?_; clear hA0 a0
 refine n4 ?_
 refine s1 hA2 (op_move rfl (hA2.ev rfl)) fun a3 hA4 => ?_; clear hA2 a1
 refine s1 hA4 (op_move rfl (hA4.ev rfl)) fun a5 hA6 => ?_; clear hA4 a3
 refine s2 hA6 (op_call rfl en_119 (ev2 (hA6.ev rfl) (hA6.ev rfl)) (indexf_row xs _ _ _ _ p _ (hS0.ok 0 _ rfl) hlen (hf.step hS0.ext))) ?_
 rintro a7 _ w9 ⟨rfl, hE10⟩ hA8; have hS11 := hS0.step hE10; clear hE10 hA6 hS0 a5
 refine s1 hA8 (op_geq rfl (hA8.ev rfl) (evc _ _)) fun a12 hA13 => ?_; clear hA8 a7
 refine s1 hA13 (op_assign rfl (hA13.ev rfl)) fun a14 hA15 => ?_; clear hA13 a12
 refine n1 ?_
 refine c_ret ?_
 refine fin_run hA15 (.inl rfl) (run_results1 hA15 rfl (.tmp rfl)) ?_
 exact ⟨congrArg Value.bool (fidx_any p xs.length), hS11.ext⟩
theorem clo_row (x1 x2 : Int) (b fid : Nat) (fs cs : Array Value) (q : Bool) (w : World) (hb : (blk b 149 [.func (.func fid) fs cs]).p w) (hen : ∀ args W, (callFunc fid args).run Try.prog W = .ok (.enter fid args) W) (hf : ∀ W, Ext NoB w W → Calls Try.prog fid (fs ++ #[(Value.agg #[(Value.int .i64 x1), (Value.int .i64 x2)])] ++ cs) W (Ret fun v w' => v = .bool q ∧ Ext NoB W w')) :
  Calls Try.prog 112 #[(Value.agg #[(Value.int .i64 x1), (Value.int .i64 x2)]), (bptr b 0)] w (Ret fun v w' => v = .bool (!q) ∧ Ext NoB w w') := by
 refine calls_enter Try.func112 rfl fun a0 hA0 => ?_
 replace hA0 : Fr 8 [] [(0, (Value.agg #[(Value.int .i64 x1), (Value.int .i64 x2)])), (1, (bptr b 0))] a0 := hA0
 have hS0 : Sep NoB w w [(rob b 149 [(Value.func (.func fid) fs cs)])] := sep_ro ⟨rfl, hb, trivial⟩
 refine m2 ?_
 refine s2 hA0 (op_box hS0 rfl (hA0.ev rfl) (cs := [(Value.int .i64 x1), (Value.int .i64 x2)]) rfl) ?_
 rintro a1 _ w3 ⟨b4, rfl, hS5⟩ hA2; clear hA0 hS0 a0
 refine s1 hA2 (op_assign rfl (evc _ _)) fun a6 hA7 => ?_; clear hA2 a1
 refine n4 ?_
 refine s1 hA7 (op_load1 rfl ty_149 (hA7.ev rfl) (hS5.rk 1 rfl) rfl) fun a8 hA9 => ?_; clear hA7 a6
 refine s1 hA9 (op_loadA rfl ty_107 (hA9.ev rfl) (hS5.bk 0 rfl) (l := [(Value.int .i64 x1), (Value.int .i64 x2)]) rfl rfl) fun a10 hA11 => ?_; clear hA9 a8
 refine s2 hA11 (op_callv rfl (hA11.ev rfl) hen (ev1 (hA11.ev rfl)) (hf _ hS5.ext)) ?_
 rintro a12 _ w14 ⟨rfl, hE15⟩ hA13; have hS16 := hS5.step hE15; clear hA11 hS5 a10
 refine s1 hA13 (op_not rfl (hA13.ev rfl)) fun a17 hA18 => ?_; clear hA13 a12
 refine s1 hA18 (op_assign rfl (hA18.ev rfl)) fun a19 hA20 => ?_; clear hA18 a17
 refine n1 ?_
 refine c_ret ?_
 refine fin_run hA20 (.inl rfl) (run_results1 hA20 rfl (.tmp rfl)) ?_
 exact ⟨rfl, hS16.ext⟩
theorem all_row (xs : List (Int × Int)) (v : Value) (fid : Nat) (fs cs : Array Value) (p : Nat → Bool) (w : World) (hv : SlAt w v 2 xs.length (pairs xs)) (hlen : xs.length ≤ 1000000) (hf : Asks Try.prog w fid fs cs xs.length (fun i => (Value.agg #[(Value.int .i64 ((xs.getD i (0, 0)).1)), (Value.int .i64 ((xs.getD i (0, 0)).2))])) p) :
  Calls Try.prog 94 #[v, (Value.func (.func fid) fs cs)] w (Ret fun v w' => v = .bool ((List.range xs.length).all p) ∧ Ext NoB w w') := by
 refine calls_enter Try.func94 rfl fun a0 hA0 => ?_
 replace hA0 : Fr 9 [] [(0, v), (1, (Value.func (.func fid) fs cs))] a0 := hA0
 have hS0 : Sep NoB w w [(sl v 2 xs.length (pairs xs))] := sep_ro ⟨rfl, hv, trivial⟩
 refine m2 ?_
 refine s2 hA0 (op_box hS0 rfl (hA0.ev rfl) (cs := [(Value.func (.func fid) fs cs)]) rfl) ?_
 rintro a1 _ w3 ⟨b4, rfl, hS5⟩ hA2; clear hA0 hS0 a0
 refine s1 hA2 (op_assign rfl (evc _ _)) fun a6 hA7 => ?_; clear hA2 a1
 refine n4 ?_
 refine s1 hA7 (op_move rfl (hA7.ev rfl)) fun a8 hA9 => ?_; clear hA7 a6
 refine s1 hA9 (op_makeFunc rfl ev0 (ev1 (hA9.ev rfl))) fun a10 hA11 => ?_; clear hA9 a8
 refine s2 hA11 (op_call rfl en_111 (ev2 (hA11.ev rfl) (hA11.ev rfl)) (contf_row xs _ 112 #[] #[(bptr b4 0)] (fun i => !p i) _ (hS5.ok 1 _ rfl) hlen ⟨en_112, fun i hi W hW => clo_row _ _ _ _ _ _ (p i) W ((hS5.step hW).bk 0 rfl) hf.1 (fun W' hW' => hf.2 i hi W' (hS5.ext.trans (hW.trans hW')))⟩)) ?_
 rintro a12 _ w14 ⟨rfl, hE15⟩ hA13; have hS16 := hS5.step hE15; clear hE15 hA11 hS5 a10
 refine s1 hA13 (op_not rfl (hA13.ev rfl)) fun a17 hA18 => ?_; clear hA13 a12
 refine s1 hA18 (op_assign rfl (hA18.ev rfl)) fun a19 hA20 => ?_; clear hA18 a17
 refine n1 ?_
 refine c_ret ?_
 refine fin_run hA20 (.inl rfl) (run_results1 hA20 rfl (.tmp rfl)) ?_
 exact ⟨congrArg Value.bool (any_not p xs.length), hS16.ext⟩
theorem indexf_blk (xs : List (Int × Int × Int)) (v : Value) (fid : Nat) (fs cs : Array Value) (p : Nat → Bool) (w : World) (hv : SlAt w v 3 xs.length (trips xs)) (hlen : xs.length ≤ 1000000) (hf : Asks Try.prog w fid fs cs xs.length (fun i => (Value.agg #[(Value.int .i64 ((xs.getD i (0, 0, 0)).1)), (Value.int .i64 ((xs.getD i (0, 0, 0)).2.1)), (Value.int .i64 ((xs.getD i (0, 0, 0)).2.2))])) p) :
  Calls Try.prog 120 #[v, (Value.func (.func fid) fs cs)] w (Ret fun v w' => v = .int .i64 (fidx p xs.length) ∧ Ext NoB w w') := by
 refine calls_enter Try.func120 rfl fun a0 hA0 => ?_
 replace hA0 : Fr 19 [] [(0, v), (1, (Value.func (.func fid) fs cs))] a0 := hA0
 have hS0 : Sep NoB w w [(sl v 3 xs.length (trips xs))] := sep_ro ⟨rfl, hv, trivial⟩
 refine m2 ?_
 refine s1 hA0 (op_assign rfl (evc _ _)) fun a1 hA2 => ?_; clear hA0 a0
 refine n2 ?_
 refine m2 ?_
 refine s1 hA2 (op_move rfl (hA2.ev rfl)) fun a3 hA4 => ?_; clear hA2 a1
 refine s1 hA4 (op_lenS rfl un_101 (hA4.ev rfl) (hS0.ok 0 _ rfl)) fun a5 hA6 => ?_; clear hA4 a3
 refine s1 hA6 (op_move rfl (evc _ _)) fun a7 hA8 => ?_; clear hA6 a5
 refine n1 ?_
 refine c_block ?_
 have hA9 := hA8.as [(8, (Value.int .i64 0)), (7, (Value.int .i64 (xs.length : Int))), (0, v), (1, (Value.func (.func fid) fs cs))] rfl; clear hA8
 refine c_loop (G := Nat) (fun (k : Nat) a_ w_ => Fr 19 [] [(8, (Value.int .i64 (k : Int))), (7, (Value.int .i64 (xs.length : Int))), (0, v), (1, (Value.func (.func fid) fs cs))] a_ ∧ Sep NoB w w_ [(sl v 3 xs.length (trips xs))] ∧ (k ≤ xs.length) ∧ (∀ i, i < k → p i = false)) (fun k => xs.length - k) 0 ⟨hA9.as _ rfl, hS0, by omega, by omega⟩ ?_
 clear hA9 hS0 a7
 rintro k a10 w12 ⟨hA11, hS13, hk, hn⟩
 refine m2 ?_
 refine s1 hA11 (op_lss rfl (hA11.ev rfl) (hA11.ev rfl)) fun a14 hA15 => ?_; clear hA11 a10
 refine n2 ?_
 by_cases hb16 : (k : Int) < (xs.length : Int)
 ·skip
  rw [decide_eq_true hb16] at hA15
  refine c_true hA15 rfl ?_
  refine c_skip ?_
  refine then_n ?_
  refine c_seq ?_
  refine c_block ?_
  refine m2 ?_
  refine s1 hA15 (op_move rfl (hA15.ev rfl)) fun a17 hA18 => ?_; clear hA15 a14
  refine s1 hA18 (op_assign rfl (hA18.ev rfl)) fun a19 hA20 => ?_; clear hA18 a17
  refine n4 ?_
  refine s1 hA20 (op_move rfl (hA20.ev rfl)) fun a21 hA22 => ?_; clear hA20 a19
  refine s1 hA22 (op_move rfl (hA22.ev rfl)) fun a23 hA24 => ?_; clear hA22 a21
  refine s1 hA24 (op_move rfl (hA24.ev rfl)) fun a25 hA26 => ?_; clear hA24 a23
  refine s1 hA26 (op_indexS rfl un_101 ty_100 (hA26.ev rfl) (i := k) (hA26.ev rfl) (hS13.ok 0 _ rfl) (by decide) (by omega)) fun a27 hA28 => ?_; clear hA26 a25
  refine s1 hA28 (op_loadAE rfl ty_100 (hA28.ev rfl) (hS13.ok 0 _ rfl) (trips_all (by omega)) rfl (by decide)) fun a29 hA30 => ?_; clear hA28 a27
  refine s2 hA30 (op_callv rfl (hA30.ev rfl) hf.1 (ev1 (hA30.ev rfl)) (hf.2 k (by omega) _ hS13.ext)) ?_
  rintro a31 _ w33 ⟨rfl, hE34⟩ hA32; have hS35 := hS13.step hE34; clear hA30 hS13 a29
  refine n1 ?_
  rcases Bool.eq_false_or_eq_true (p k) with hb36 | hb36
  ·skip
   rw [hb36] at hA32
   refine c_true hA32 rfl ?_
   refine c_seq ?_
   have hA37 := hA32.as [(5, (Value.int .i64 (k : Int)))] rfl; clear hA32
   refine c_region ?_
   refine s1 hA37 (op_move rfl (hA37.ev rfl)) fun a38 hA39 => ?_; clear hA37 a31
   refine s1 hA39 (op_assign rfl (hA39.ev rfl)) fun a40 hA41 => ?_; clear hA39 a38
   refine n1 ?_
   refine c_ret ?_
   refine blk_ret ?_
   refine then_ret ?_
   refine then_ret ?_
   refine blk_ret ?_
   refine then_ret ?_
   refine fin_run hA41 (.inl rfl) (run_results1 hA41 rfl (.tmp rfl)) ?_
   exact ⟨by first | rw [fidx_hit (by omega) hn (by assumption)] | rw [fidx_miss (fun i hi => hn i (by omega))], hS35.ext⟩
  ·skip
   rw [hb36] at hA32
   refine c_false hA32 rfl ?_
   refine c_skip ?_
   refine blk_n ?_
   refine then_n ?_
   have hA42 := hA32.as [(8, (Value.int .i64 (k : Int))), (7, (Value.int .i64 (xs.length : Int))), (0, v), (1, (Value.func (.func fid) fs cs))] rfl; clear hA32
   refine c_region ?_
   refine s1 hA42 (op_add rfl (hA42.ev rfl) (evc _ _) (by omega) (by omega)) fun a43 hA44 => ?_; clear hA42 a31
   refine s1 hA44 (op_move rfl (hA44.ev rfl)) fun a45 hA46 => ?_; clear hA44 a43
   refine wl_nil ?_
   exact then_n ⟨k + 1, ⟨hA46.as _ rfl, hS35, by omega, (fun i hi => by rcases Nat.lt_succ_iff_lt_or_eq.1 hi with h | h; exact hn i h; subst h; assumption)⟩, by omega⟩
 ·skip
  rw [decide_eq_false hb16] at hA15
  refine c_false hA15 rfl ?_
  refine c_exit ?_
  refine then_exit ?_
  refine then_exit ?_
  refine blk_hit ?_
  refine then_n ?_
  refine m2 ?_
  refine s1 hA15 (op_assign rfl (evc _ _)) fun a47 hA48 => ?_; clear hA15 a14
  refine n1 ?_
  refine c_ret ?_
  refine fin_run hA48 (.inl rfl) (run_results1 hA48 rfl (.tmp rfl)) ?_
  exact ⟨by first | rw [fidx_hit (by omega) hn (by assumption)] | rw [fidx_miss (fun i hi => hn i (by omega))], hS13.ext⟩
theorem contf_blk (xs : List (Int × Int × Int)) (v : Value) (fid : Nat) (fs cs : Array Value) (p : Nat → Bool) (w : World) (hv : SlAt w v 3 xs.length (trips xs)) (hlen : xs.length ≤ 1000000) (hf : Asks Try.prog w fid fs cs xs.length (fun i => (Value.agg #[(Value.int .i64 ((xs.getD i (0, 0, 0)).1)), (Value.int .i64 ((xs.getD i (0, 0, 0)).2.1)), (Value.int .i64 ((xs.getD i (0, 0, 0)).2.2))])) p) :
  Calls Try.prog 113 #[v, (Value.func (.func fid) fs cs)] w (Ret fun v w' => v = .bool ((List.range xs.length).any p) ∧ Ext NoB w w') := by
 refine calls_enter Try.func113 rfl fun a0 hA0 => ?_
 replace hA0 : Fr 9 [] [(0, v), (1, (Value.func (.func fid) fs cs))] a0 := hA0
 have hS0 : Sep NoB w w [(sl v 3 xs.length (trips xs))] := sep_ro ⟨rfl, hv, trivial⟩
 refine m2 ?_
 refine s1 hA0 (op_assign rfl (evc _ _)) fun a1 hA2 => ?_; clear hA0 a0
 refine n4 ?_
 refine s1 hA2 (op_move rfl (hA2.ev rfl)) fun a3 hA4 => ?_; clear hA2 a1
 refine s1 hA4 (op_move rfl (hA4.ev rfl)) fun a5 hA6 => ?_; clear hA4 a3
 refine s2 hA6 (op_call rfl en_120 (ev2 (hA6.ev rfl) (hA6.ev rfl)) (indexf_blk xs _ _ _ _ p _ (hS0.ok 0 _ rfl) hlen (hf.step hS0.ext))) ?_
 rintro a7 _ w9 ⟨rfl, hE10⟩ hA8; have hS11 := hS0.step hE10; clear hE10 hA6 hS0 a5
 refine s1 hA8 (op_geq rfl (hA8.ev rfl) (evc _ _)) fun a12 hA13 => ?_; clear hA8 a7
 refine s1 hA13 (op_assign rfl (hA13.ev rfl)) fun a14 hA15 => ?_; clear hA13 a12
 refine n1 ?_
 refine c_ret ?_
 refine fin_run hA15 (.inl rfl) (run_results1 hA15 rfl (.tmp rfl)) ?_
 exact ⟨congrArg Value.bool (fidx_any p xs.length), hS11.ext⟩
theorem clo_blk (x1 x2 x3 : Int) (b fid : Nat) (fs cs : Array Value) (q : Bool) (w : World) (hb : (blk b 151 [.func (.func fid) fs cs]).p w) (hen : ∀ args W, (callFunc fid args).run Try.prog W = .ok (.enter fid args) W) (hf : ∀ W, Ext NoB w W → Calls Try.prog fid (fs ++ #[(Value.agg #[(Value.int .i64 x1), (Value.int .i64 x2), (Value.int .i64 x3)])] ++ cs) W (Ret fun v w' => v = .bool q ∧ Ext NoB W w')) :
  Calls Try.prog 114 #[(Value.agg #[(Value.int .i64 x1), (Value.int .i64 x2), (Value.int .i64 x3)]), (bptr b 0)] w (Ret fun v w' => v = .bool (!q) ∧ Ext NoB w w') := by
 refine calls_enter Try.func114 rfl fun a0 hA0 => ?_
 replace hA0 : Fr 8 [] [(0, (Value.agg #[(Value.int .i64 x1), (Value.int .i64 x2), (Value.int .i64 x3)])), (1, (bptr b 0))] a0 := hA0
 have hS0 : Sep NoB w w [(rob b 151 [(Value.func (.func fid) fs cs)])] := sep_ro ⟨rfl, hb, trivial⟩
 refine m2 ?_
 refine s2 hA0 (op_box hS0 rfl (hA0.ev rfl) (cs := [(Value.int .i64 x1), (Value.int .i64 x2), (Value.int .i64 x3)]) rfl) ?_
 rintro a1 _ w3 ⟨b4, rfl, hS5⟩ hA2; clear hA0 hS0 a0
 refine s1 hA2 (op_assign rfl (evc _ _)) fun a6 hA7 => ?_; clear hA2 a1
 refine n4 ?_
 refine s1 hA7 (op_load1 rfl ty_151 (hA7.ev rfl) (hS5.rk 1 rfl) rfl) fun a8 hA9 => ?_; clear hA7 a6
 refine s1 hA9 (op_loadA rfl ty_100 (hA9.ev rfl) (hS5.bk 0 rfl) (l := [(Value.int .i64 x1), (Value.int .i64 x2), (Value.int .i64 x3)]) rfl rfl) fun a10 hA11 => ?_; clear hA9 a8
 refine s2 hA11 (op_callv rfl (hA11.ev rfl) hen (ev1 (hA11.ev rfl)) (hf _ hS5.ext)) ?_
 rintro a12 _ w14 ⟨rfl, hE15⟩ hA13; have hS16 := hS5.step hE15; clear hA11 hS5 a10
 refine s1 hA13 (op_not rfl (hA13.ev rfl)) fun a17 hA18 => ?_; clear hA13 a12
 refine s1 hA18 (op_assign rfl (hA18.ev rfl)) fun a19 hA20 => ?_; clear hA18 a17
 refine n1 ?_
 refine c_ret ?_
 refine fin_run hA20 (.inl rfl) (run_results1 hA20 rfl (.tmp rfl)) ?_
 exact ⟨rfl, hS16.ext⟩
theorem all_blk (xs : List (Int × Int × Int)) (v : Value) (fid : Nat) (fs cs : Array Value) (p : Nat → Bool) (w : World) (hv : SlAt w v 3 xs.length (trips xs)) (hlen : xs.length ≤ 1000000) (hf : Asks Try.prog w fid fs cs xs.length (fun i => (Value.agg #[(Value.int .i64 ((xs.getD i (0, 0, 0)).1)), (Value.int .i64 ((xs.getD i (0, 0, 0)).2.1)), (Value.int .i64 ((xs.getD i (0, 0, 0)).2.2))])) p) :
  Calls Try.prog 97 #[v, (Value.func (.func fid) fs cs)] w (Ret fun v w' => v = .bool ((List.range xs.length).all p) ∧ Ext NoB w w') := by
 refine calls_enter Try.func97 rfl fun a0 hA0 => ?_
 replace hA0 : Fr 9 [] [(0, v), (1, (Value.func (.func fid) fs cs))] a0 := hA0
 have hS0 : Sep NoB w w [(sl v 3 xs.length (trips xs))] := sep_ro ⟨rfl, hv, trivial⟩
 refine m2 ?_
 refine s2 hA0 (op_box hS0 rfl (hA0.ev rfl) (cs := [(Value.func (.func fid) fs cs)]) rfl) ?_
 rintro a1 _ w3 ⟨b4, rfl, hS5⟩ hA2; clear hA0 hS0 a0
 refine s1 hA2 (op_assign rfl (evc _ _)) fun a6 hA7 => ?_; clear hA2 a1
 refine n4 ?_
 refine s1 hA7 (op_move rfl (hA7.ev rfl)) fun a8 hA9 => ?_; clear hA7 a6
 refine s1 hA9 (op_makeFunc rfl ev0 (ev1 (hA9.ev rfl))) fun a10 hA11 => ?_; clear hA9 a8
 refine s2 hA11 (op_call rfl en_113 (ev2 (hA11.ev rfl) (hA11.ev rfl)) (contf_blk xs _ 114 #[] #[(bptr b4 0)] (fun i => !p i) _ (hS5.ok 1 _ rfl) hlen ⟨en_114, fun i hi W hW => clo_blk _ _ _ _ _ _ _ (p i) W ((hS5.step hW).bk 0 rfl) hf.1 (fun W' hW' => hf.2 i hi W' (hS5.ext.trans (hW.trans hW')))⟩)) ?_
 rintro a12 _ w14 ⟨rfl, hE15⟩ hA13; have hS16 := hS5.step hE15; clear hE15 hA11 hS5 a10
 refine s1 hA13 (op_not rfl (hA13.ev rfl)) fun a17 hA18 => ?_; clear hA13 a12
 refine s1 hA18 (op_assign rfl (hA18.ev rfl)) fun a19 hA20 => ?_; clear hA18 a17
 refine n1 ?_
 refine c_ret ?_
 refine fin_run hA20 (.inl rfl) (run_results1 hA20 rfl (.tmp rfl)) ?_
 exact ⟨congrArg Value.bool (any_not p xs.length), hS16.ext⟩
theorem indexf_read (xs : List (Int × Int)) (v : Value) (fid : Nat) (fs cs : Array Value) (p : Nat → Bool) (w : World) (hv : SlAt w v 2 xs.length (pairs xs)) (hlen : xs.length ≤ 1000000) (hf : Asks Try.prog w fid fs cs xs.length (fun i => (Value.agg #[(Value.int .i64 ((xs.getD i (0, 0)).1)), (Value.int .i64 ((xs.getD i (0, 0)).2))])) p) :
  Calls Try.prog 117 #[v, (Value.func (.func fid) fs cs)] w (Ret fun v w' => v = .int .i64 (fidx p xs.length) ∧ Ext NoB w w') := by
 refine calls_enter Try.func117 rfl fun a0 hA0 => ?_
 replace hA0 : Fr 19 [] [(0, v), (1, (Value.func (.func fid) fs cs))] a0 := hA0
 have hS0 : Sep NoB w w [(sl v 2 xs.length (pairs xs))] := sep_ro ⟨rfl, hv, trivial⟩
 refine m2 ?_
 refine s1 hA0 (op_assign rfl (evc _ _)) fun a1 hA2 => ?_; clear hA0 a0
 refine n2 ?_
 refine m2 ?_
 refine s1 hA2 (op_move rfl (hA2.ev rfl)) fun a3 hA4 => ?_; clear hA2 a1
 refine s1 hA4 (op_lenS rfl un_53 (hA4.ev rfl) (hS0.ok 0 _ rfl)) fun a5 hA6 => ?_; clear hA4 a3
 refine s1 hA6 (op_move rfl (evc _ _)) fun a7 hA8 => ?_; clear hA6 a5
 refine n1 ?_
 refine c_block ?_
 have hA9 := hA8.as [(8, (Value.int .i64 0)), (7, (Value.int .i64 (xs.length : Int))), (0, v), (1, (Value.func (.func fid) fs cs))] rfl; clear hA8
 refine c_loop (G := Nat) (fun (k : Nat) a_ w_ => Fr 19 [] [(8, (Value.int .i64 (k : Int))), (7, (Value.int .i64 (xs.length : Int))), (0, v), (1, (Value.func (.func fid) fs cs))] a_ ∧ Sep NoB w w_ [(sl v 2 xs.length (pairs xs))] ∧ (k ≤ xs.length) ∧ (∀ i, i < k → p i = false)) (fun k => xs.length - k) 0 ⟨hA9.as _ rfl, hS0, by omega, by omega⟩ ?_
 clear hA9 hS0 a7
 rintro k a10 w12 ⟨hA11, hS13, hk, hn⟩
 refine m2 ?_
 refine s1 hA11 (op_lss rfl (hA11.ev rfl) (hA11.ev rfl)) fun a14 hA15 => ?_; clear hA11 a10
 refine n2 ?_
 by_cases hb16 : (k : Int) < (xs.length : Int)
 ·skip
  rw [decide_eq_true hb16] at hA15
  refine c_true hA15 rfl ?_
  refine c_skip ?_
  refine then_n ?_
  refine c_seq ?_
  refine c_block ?_
  refine m2 ?_
  refine s1 hA15 (op_move rfl (hA15.ev rfl)) fun a17 hA18 => ?_; clear hA15 a14
  refine s1 hA18 (op_assign rfl (hA18.ev rfl)) fun a19 hA20 => ?_; clear hA18 a17
  refine n4 ?_
  refine s1 hA20 (op_move rfl (hA20.ev rfl)) fun a21 hA22 => ?_; clear hA20 a19
  refine s1 hA22 (op_move rfl (hA22.ev rfl)) fun a23 hA24 => ?_; clear hA22 a21
  refine s1 hA24 (op_move rfl (hA24.ev rfl)) fun a25 hA26 => ?_; clear hA24 a23
  refine s1 hA26 (op_indexS rfl un_53 ty_98 (hA26.ev rfl) (i := k) (hA26.ev rfl) (hS13.ok 0 _ rfl) (by decide) (by omega)) fun a27 hA28 => ?_; clear hA26 a25
  refine s1 hA28 (op_loadAE rfl ty_98 (hA28.ev rfl) (hS13.ok 0 _ rfl) (pairs_all (by omega)) rfl (by decide)) fun a29 hA30 => ?_; clear hA28 a27
  refine s2 hA30 (op_callv rfl (hA30.ev rfl) hf.1 (ev1 (hA30.ev rfl)) (hf.2 k (by omega) _ hS13.ext)) ?_
  rintro a31 _ w33 ⟨rfl, hE34⟩ hA32; have hS35 := hS13.step hE34; clear hA30 hS13 a29
  refine n1 ?_
  rcases Bool.eq_false_or_eq_true (p k) with hb36 | hb36
  ·skip
   rw [hb36] at hA32
   refine c_true hA32 rfl ?_
   refine c_seq ?_
   have hA37 := hA32.as [(5, (Value.int .i64 (k : Int)))] rfl; clear hA32
   refine c_region ?_
   refine s1 hA37 (op_move rfl (hA37.ev rfl)) fun a38 hA39 => ?_; clear hA37 a31
   refine s1 hA39 (op_assign rfl (hA39.ev rfl)) fun a40 hA41 => ?_; clear hA39 a38
   refine n1 ?_
   refine c_ret ?_
   refine blk_ret ?_
   refine then_ret ?_
   refine then_ret ?_
   refine blk_ret ?_
   refine then_ret ?_
   refine fin_run hA41 (.inl rfl) (run_results1 hA41 rfl (.tmp rfl)) ?_
   exact ⟨by first | rw [fidx_hit (by omega) hn (by assumption)] | rw [fidx_miss (fun i hi => hn i (by omega))], hS35.ext⟩
  ·skip
   rw [hb36] at hA32
   refine c_false hA32 rfl ?_
   refine c_skip ?_
   refine blk_n ?_
   refine then_n ?_
   have hA42 := hA32.as [(8, (Value.int .i64 (k : Int))), (7, (Value.int .i64 (xs.length : Int))), (0, v), (1, (Value.func (.func fid) fs cs))] rfl; clear hA32
   refine c_region ?_
   refine s1 hA42 (op_add rfl (hA42.ev rfl) (evc _ _) (by omega) (by omega)) fun a43 hA44 => ?_; clear hA42 a31
   refine s1 hA44 (op_move rfl (hA44.ev rfl)) fun a45 hA46 => ?_; clear hA44 a43
   refine wl_nil ?_
   exact then_n ⟨k + 1, ⟨hA46.as _ rfl, hS35, by omega, (fun i hi => by rcases Nat.lt_succ_iff_lt_or_eq.1 hi with h | h; exact hn i h; subst h; assumption)⟩, by omega⟩
 ·skip
  rw [decide_eq_false hb16] at hA15
  refine c_false hA15 rfl ?_
  refine c_exit ?_
  refine then_exit ?_
  refine then_exit ?_
  refine blk_hit ?_
  refine then_n ?_
  refine m2 ?_
  refine s1 hA15 (op_assign rfl (evc _ _)) fun a47 hA48 => ?_; clear hA15 a14
  refine n1 ?_
  refine c_ret ?_
  refine fin_run hA48 (.inl rfl) (run_results1 hA48 rfl (.tmp rfl)) ?_
  exact ⟨by first | rw [fidx_hit (by omega) hn (by assumption)] | rw [fidx_miss (fun i hi => hn i (by omega))], hS13.ext⟩
theorem contf_read (xs : List (Int × Int)) (v : Value) (fid : Nat) (fs cs : Array Value) (p : Nat → Bool) (w : World) (hv : SlAt w v 2 xs.length (pairs xs)) (hlen : xs.length ≤ 1000000) (hf : Asks Try.prog w fid fs cs xs.length (fun i => (Value.agg #[(Value.int .i64 ((xs.getD i (0, 0)).1)), (Value.int .i64 ((xs.getD i (0, 0)).2))])) p) :
  Calls Try.prog 106 #[v, (Value.func (.func fid) fs cs)] w (Ret fun v w' => v = .bool ((List.range xs.length).any p) ∧ Ext NoB w w') := by
 refine calls_enter Try.func106 rfl fun a0 hA0 => ?_
 replace hA0 : Fr 9 [] [(0, v), (1, (Value.func (.func fid) fs cs))] a0 := hA0
 have hS0 : Sep NoB w w [(sl v 2 xs.length (pairs xs))] := sep_ro ⟨rfl, hv, trivial⟩
 refine m2 ?_
 refine s1 hA0 (op_assign rfl (evc _ _)) fun a1 hA2 => ?_; clear hA0 a0
 refine n4 ?_
 refine s1 hA2 (op_move rfl (hA2.ev rfl)) fun a3 hA4 => ?_; clear hA2 a1
 refine s1 hA4 (op_move rfl (hA4.ev rfl)) fun a5 hA6 => ?_; clear hA4 a3
 refine s2 hA6 (op_call rfl en_117 (ev2 (hA6.ev rfl) (hA6.ev rfl)) (indexf_read xs _ _ _ _ p _ (hS0.ok 0 _ rfl) hlen (hf.step hS0.ext))) ?_
 rintro a7 _ w9 ⟨rfl, hE10⟩ hA8; have hS11 := hS0.step hE10; clear hE10 hA6 hS0 a5
 refine s1 hA8 (op_geq rfl (hA8.ev rfl) (evc _ _)) fun a12 hA13 => ?_; clear hA8 a7
 refine s1 hA13 (op_assign rfl (hA13.ev rfl)) fun a14 hA15 => ?_; clear hA13 a12
 refine n1 ?_
 refine c_ret ?_
 refine fin_run hA15 (.inl rfl) (run_results1 hA15 rfl (.tmp rfl)) ?_
 exact ⟨congrArg Value.bool (fidx_any p xs.length), hS11.ext⟩
theorem clo_read (x1 x2 : Int) (b fid : Nat) (fs cs : Array Value) (q : Bool) (w : World) (hb : (blk b 141 [.func (.func fid) fs cs]).p w) (hen : ∀ args W, (callFunc fid args).run Try.prog W = .ok (.enter fid args) W) (hf : ∀ W, Ext NoB w W → Calls Try.prog fid (fs ++ #[(Value.agg #[(Value.int .i64 x1), (Value.int .i64 x2)])] ++ cs) W (Ret fun v w' => v = .bool q ∧ Ext NoB W w')) :
  Calls Try.prog 107 #[(Value.agg #[(Value.int .i64 x1), (Value.int .i64 x2)]), (bptr b 0)] w (Ret fun v w' => v = .bool (!q) ∧ Ext NoB w w') := by
 refine calls_enter Try.func107 rfl fun a0 hA0 => ?_
 replace hA0 : Fr 8 [] [(0, (Value.agg #[(Value.int .i64 x1), (Value.int .i64 x2)])), (1, (bptr b 0))] a0 := hA0
 have hS0 : Sep NoB w w [(rob b 141 [(Value.func (.func fid) fs cs)])] := sep_ro ⟨rfl, hb, trivial⟩
 refine m2 ?_
 refine s2 hA0 (op_box hS0 rfl (hA0.ev rfl) (cs := [(Value.int .i64 x1), (Value.int .i64 x2)]) rfl) ?_
 rintro a1 _ w3 ⟨b4, rfl, hS5⟩ hA2; clear hA0 hS0 a0
 refine s1 hA2 (op_assign rfl (evc _ _)) fun a6 hA7 => ?_; clear hA2 a1
 refine n4 ?_
 refine s1 hA7 (op_load1 rfl ty_141 (hA7.ev rfl) (hS5.rk 1 rfl) rfl) fun a8 hA9 => ?_; clear hA7 a6
 refine s1 hA9 (op_loadA rfl ty_98 (hA9.ev rfl) (hS5.bk 0 rfl) (l := [(Value.int .i64 x1), (Value.int .i64 x2)]) rfl rfl) fun a10 hA11 => ?_; clear hA9 a8
 refine s2 hA11 (op_callv rfl (hA11.ev rfl) hen (ev1 (hA11.ev rfl)) (hf _ hS5.ext)) ?_
 rintro a12 _ w14 ⟨rfl, hE15⟩ hA13; have hS16 := hS5.step hE15; clear hA11 hS5 a10
 refine s1 hA13 (op_not rfl (hA13.ev rfl)) fun a17 hA18 => ?_; clear hA13 a12
 refine s1 hA18 (op_assign rfl (hA18.ev rfl)) fun a19 hA20 => ?_; clear hA18 a17
 refine n1 ?_
 refine c_ret ?_
 refine fin_run hA20 (.inl rfl) (run_results1 hA20 rfl (.tmp rfl)) ?_
 exact ⟨rfl, hS16.ext⟩
theorem all_read (xs : List (Int × Int)) (v : Value) (fid : Nat) (fs cs : Array Value) (p : Nat → Bool) (w : World) (hv : SlAt w v 2 xs.length (pairs xs)) (hlen : xs.length ≤ 1000000) (hf : Asks Try.prog w fid fs cs xs.length (fun i => (Value.agg #[(Value.int .i64 ((xs.getD i (0, 0)).1)), (Value.int .i64 ((xs.getD i (0, 0)).2))])) p) :
  Calls Try.prog 84 #[v, (Value.func (.func fid) fs cs)] w (Ret fun v w' => v = .bool ((List.range xs.length).all p) ∧ Ext NoB w w') := by
 refine calls_enter Try.func84 rfl fun a0 hA0 => ?_
 replace hA0 : Fr 9 [] [(0, v), (1, (Value.func (.func fid) fs cs))] a0 := hA0
 have hS0 : Sep NoB w w [(sl v 2 xs.length (pairs xs))] := sep_ro ⟨rfl, hv, trivial⟩
 refine m2 ?_
 refine s2 hA0 (op_box hS0 rfl (hA0.ev rfl) (cs := [(Value.func (.func fid) fs cs)]) rfl) ?_
 rintro a1 _ w3 ⟨b4, rfl, hS5⟩ hA2; clear hA0 hS0 a0
 refine s1 hA2 (op_assign rfl (evc _ _)) fun a6 hA7 => ?_; clear hA2 a1
 refine n4 ?_
 refine s1 hA7 (op_move rfl (hA7.ev rfl)) fun a8 hA9 => ?_; clear hA7 a6
 refine s1 hA9 (op_makeFunc rfl ev0 (ev1 (hA9.ev rfl))) fun a10 hA11 => ?_; clear hA9 a8
 refine s2 hA11 (op_call rfl en_106 (ev2 (hA11.ev rfl) (hA11.ev rfl)) (contf_read xs _ 107 #[] #[(bptr b4 0)] (fun i => !p i) _ (hS5.ok 1 _ rfl) hlen ⟨en_107, fun i hi W hW => clo_read _ _ _ _ _ _ (p i) W ((hS5.step hW).bk 0 rfl) hf.1 (fun W' hW' => hf.2 i hi W' (hS5.ext.trans (hW.trans hW')))⟩)) ?_
 rintro a12 _ w14 ⟨rfl, hE15⟩ hA13; have hS16 := hS5.step hE15; clear hE15 hA11 hS5 a10
 refine s1 hA13 (op_not rfl (hA13.ev rfl)) fun a17 hA18 => ?_; clear hA13 a12
 refine s1 hA18 (op_assign rfl (hA18.ev rfl)) fun a19 hA20 => ?_; clear hA18 a17
 refine n1 ?_
 refine c_ret ?_
 refine fin_run hA20 (.inl rfl) (run_results1 hA20 rfl (.tmp rfl)) ?_
 exact ⟨congrArg Value.bool (any_not p xs.length), hS16.ext⟩
theorem indexf_int (xs : List Int) (v : Value) (fid : Nat) (fs cs : Array Value) (p : Nat → Bool) (w : World) (hv : SlAt w v 1 xs.length (ints xs)) (hlen : xs.length ≤ 1000000) (hf : Asks Try.prog w fid fs cs xs.length (fun i => (Value.int .i64 (xs.getD i 0))) p) :
  Calls Try.prog 115 #[v, (Value.func (.func fid) fs cs)] w (Ret fun v w' => v = .int .i64 (fidx p xs.length) ∧ Ext NoB w w') := by
 refine calls_enter Try.func115 rfl fun a0 hA0 => ?_
 replace hA0 : Fr 19 [] [(0, v), (1, (Value.func (.func fid) fs cs))] a0 := hA0
 have hS0 : Sep NoB w w [(sl v 1 xs.length (ints xs))] := sep_ro ⟨rfl, hv, trivial⟩
 refine m2 ?_
 refine s1 hA0 (op_assign rfl (evc _ _)) fun a1 hA2 => ?_; clear hA0 a0
 refine n2 ?_
 refine m2 ?_
 refine s1 hA2 (op_move rfl (hA2.ev rfl)) fun a3 hA4 => ?_; clear hA2 a1
 refine s1 hA4 (op_lenS rfl un_44 (hA4.ev rfl) (hS0.ok 0 _ rfl)) fun a5 hA6 => ?_; clear hA4 a3
 refine s1 hA6 (op_move rfl (evc _ _)) fun a7 hA8 => ?_; clear hA6 a5
 refine n1 ?_
 refine c_block ?_
 have hA9 := hA8.as [(8, (Value.int .i64 0)), (7, (Value.int .i64 (xs.length : Int))), (0, v), (1, (Value.func (.func fid) fs cs))] rfl; clear hA8
 refine c_loop (G := Nat) (fun (k : Nat) a_ w_ => Fr 19 [] [(8, (Value.int .i64 (k : Int))), (7, (Value.int .i64 (xs.length : Int))), (0, v), (1, (Value.func (.func fid) fs cs))] a_ ∧ Sep NoB w w_ [(sl v 1 xs.length (ints xs))] ∧ (k ≤ xs.length) ∧ (∀ i, i < k → p i = false)) (fun k => xs.length - k) 0 ⟨hA9.as _ rfl, hS0, by omega, by omega⟩ ?_
 clear hA9 hS0 a7
 rintro k a10 w12 ⟨hA11, hS13, hk, hn⟩
 refine m2 ?_
 refine s1 hA11 (op_lss rfl (hA11.ev rfl) (hA11.ev rfl)) fun a14 hA15 => ?_; clear hA11 a10
 refine n2 ?_
 by_cases hb16 : (k : Int) < (xs.length : Int)
 ·skip
  rw [decide_eq_true hb16] at hA15
  refine c_true hA15 rfl ?_
  refine c_skip ?_
  refine then_n ?_
  refine c_seq ?_
  refine c_block ?_
  refine m2 ?_
  refine s1 hA15 (op_move rfl (hA15.ev rfl)) fun a17 hA18 => ?_; clear hA15 a14
  refine s1 hA18 (op_assign rfl (hA18.ev rfl)) fun a19 hA20 => ?_; clear hA18 a17
  refine n4 ?_
  refine s1 hA20 (op_move rfl (hA20.ev rfl)) fun a21 hA22 => ?_; clear hA20 a19
  refine s1 hA22 (op_move rfl (hA22.ev rfl)) fun a23 hA24 => ?_; clear hA22 a21
  refine s1 hA24 (op_move rfl (hA24.ev rfl)) fun a25 hA26 => ?_; clear hA24 a23
  refine s1 hA26 (op_indexS rfl un_44 ty_3 (hA26.ev rfl) (i := k) (hA26.ev rfl) (hS13.ok 0 _ rfl) (by decide) (by omega)) fun a27 hA28 => ?_; clear hA26 a25
  refine s1 hA28 (op_load1E rfl ty_3 (hA28.ev rfl) (hS13.ok 0 _ rfl) (ints_at (by omega))) fun a29 hA30 => ?_; clear hA28 a27
  refine s2 hA30 (op_callv rfl (hA30.ev rfl) hf.1 (ev1 (hA30.ev rfl)) (hf.2 k (by omega) _ hS13.ext)) ?_
  rintro a31 _ w33 ⟨rfl, hE34⟩ hA32; have hS35 := hS13.step hE34; clear hA30 hS13 a29
  refine n1 ?_
  rcases Bool.eq_false_or_eq_true (p k) with hb36 | hb36
  ·skip
   rw [hb36] at hA32
   refine c_true hA32 rfl ?_
   refine c_seq ?_
   have hA37 := hA32.as [(5, (Value.int .i64 (k : Int)))] rfl; clear hA32
   refine c_region ?_
   refine s1 hA37 (op_move rfl (hA37.ev rfl)) fun a38 hA39 => ?_; clear hA37 a31
   refine s1 hA39 (op_assign rfl (hA39.ev rfl)) fun a40 hA41 => ?_; clear hA39 a38
   refine n1 ?_
   refine c_ret ?_
   refine blk_ret ?_
   refine then_ret ?_
   refine then_ret ?_
   refine blk_ret ?_
   refine then_ret ?_
   refine fin_run hA41 (.inl rfl) (run_results1 hA41 rfl (.tmp rfl)) ?_
   exact ⟨by first | rw [fidx_hit (by omega) hn (by assumption)] | rw [fidx_miss (fun i hi => hn i (by omega))], hS35.ext⟩
  ·skip
   rw [hb36] at hA32
   refine c_false hA32 rfl ?_
   refine c_skip ?_
   refine blk_n ?_
   refine then_n ?_
   have hA42 := hA32.as [(8, (Value.int .i64 (k : Int))), (7, (Value.int .i64 (xs.length : Int))), (0, v), (1, (Value.func (.func fid) fs cs))] rfl; clear hA32
   refine c_region ?_
   refine s1 hA42 (op_add rfl (hA42.ev rfl) (evc _ _) (by omega) (by omega)) fun a43 hA44 => ?_; clear hA42 a31
   refine s1 hA44 (op_move rfl (hA44.ev rfl)) fun a45 hA46 => ?_; clear hA44 a43
   refine wl_nil ?_
   exact then_n ⟨k + 1, ⟨hA46.as _ rfl, hS35, by omega, (fun i hi => by rcases Nat.lt_succ_iff_lt_or_eq.1 hi with h | h; exact hn i h; subst h; assumption)⟩, by omega⟩
 ·skip
  rw [decide_eq_false hb16] at hA15
  refine c_false hA15 rfl ?_
  refine c_exit ?_
  refine then_exit ?_
  refine then_exit ?_
  refine blk_hit ?_
  refine then_n ?_
  refine m2 ?_
  refine s1 hA15 (op_assign rfl (evc _ _)) fun a47 hA48 => ?_; clear hA15 a14
  refine n1 ?_
  refine c_ret ?_
  refine fin_run hA48 (.inl rfl) (run_results1 hA48 rfl (.tmp rfl)) ?_
  exact ⟨by first | rw [fidx_hit (by omega) hn (by assumption)] | rw [fidx_miss (fun i hi => hn i (by omega))], hS13.ext⟩
theorem contf_int (xs : List Int) (v : Value) (fid : Nat) (fs cs : Array Value) (p : Nat → Bool) (w : World) (hv : SlAt w v 1 xs.length (ints xs)) (hlen : xs.length ≤ 1000000) (hf : Asks Try.prog w fid fs cs xs.length (fun i => (Value.int .i64 (xs.getD i 0))) p) :
  Calls Try.prog 99 #[v, (Value.func (.func fid) fs cs)] w (Ret fun v w' => v = .bool ((List.range xs.length).any p) ∧ Ext NoB w w') := by
 refine calls_enter Try.func99 rfl fun a0 hA0 => ?_
 replace hA0 : Fr 9 [] [(0, v), (1, (Value.func (.func fid) fs cs))] a0 := hA0
 have hS0 : Sep NoB w w [(sl v 1 xs.length (ints xs))] := sep_ro ⟨rfl, hv, trivial⟩
 refine m2 ?_
 refine s1 hA0 (op_assign rfl (evc _ _)) fun a1 hA2 => ?_; clear hA0 a0
 refine n4 ?_
 refine s1 hA2 (op_move rfl (hA2.ev rfl)) fun a3 hA4 => ?_; clear hA2 a1
 refine s1 hA4 (op_move rfl (hA4.ev rfl)) fun a5 hA6 => ?_; clear hA4 a3
 refine s2 hA6 (op_call rfl en_115 (ev2 (hA6.ev rfl) (hA6.ev rfl)) (indexf_int xs _ _ _ _ p _ (hS0.ok 0 _ rfl) hlen (hf.step hS0.ext))) ?_
 rintro a7 _ w9 ⟨rfl, hE10⟩ hA8; have hS11 := hS0.step hE10; clear hE10 hA6 hS0 a5
 refine s1 hA8 (op_geq rfl (hA8.ev rfl) (evc _ _)) fun a12 hA13 => ?_; clear hA8 a7
 refine s1 hA13 (op_assign rfl (hA13.ev rfl)) fun a14 hA15 => ?_; clear hA13 a12
 refine n1 ?_
 refine c_ret ?_
 refine fin_run hA15 (.inl rfl) (run_results1 hA15 rfl (.tmp rfl)) ?_
 exact ⟨congrArg Value.bool (fidx_any p xs.length), hS11.ext⟩
theorem clo_int (x : Int) (b fid : Nat) (fs cs : Array Value) (q : Bool) (w : World) (hb : (blk b 112 [.func (.func fid) fs cs]).p w) (hen : ∀ args W, (callFunc fid args).run Try.prog W = .ok (.enter fid args) W) (hf : ∀ W, Ext NoB w W → Calls Try.prog fid (fs ++ #[(Value.int .i64 x)] ++ cs) W (Ret fun v w' => v = .bool q ∧ Ext NoB W w')) :
  Calls Try.prog 100 #[(Value.int .i64 x), (bptr b 0)] w (Ret fun v w' => v = .bool (!q) ∧ Ext NoB w w') := by
 refine calls_enter Try.func100 rfl fun a0 hA0 => ?_
 replace hA0 : Fr 8 [] [(0, (Value.int .i64 x)), (1, (bptr b 0))] a0 := hA0
 have hS0 : Sep NoB w w [(rob b 112 [(Value.func (.func fid) fs cs)])] := sep_ro ⟨rfl, hb, trivial⟩
 refine m2 ?_
 refine s1 hA0 (op_assign rfl (evc _ _)) fun a1 hA2 => ?_; clear hA0 a0
 refine n4 ?_
 refine s1 hA2 (op_load1 rfl ty_112 (hA2.ev rfl) (hS0.rk 0 rfl) rfl) fun a3 hA4 => ?_; clear hA2 a1
 refine s1 hA4 (op_move rfl (hA4.ev rfl)) fun a5 hA6 => ?_; clear hA4 a3
 refine s2 hA6 (op_callv rfl (hA6.ev rfl) hen (ev1 (hA6.ev rfl)) (hf _ hS0.ext)) ?_
 rintro a7 _ w9 ⟨rfl, hE10⟩ hA8; have hS11 := hS0.step hE10; clear hA6 hS0 a5
 refine s1 hA8 (op_not rfl (hA8.ev rfl)) fun a12 hA13 => ?_; clear hA8 a7
 refine s1 hA13 (op_assign rfl (hA13.ev rfl)) fun a14 hA15 => ?_; clear hA13 a12
 refine n1 ?_
 refine c_ret ?_
 refine fin_run hA15 (.inl rfl) (run_results1 hA15 rfl (.tmp rfl)) ?_
 exact ⟨rfl, hS11.ext⟩
theorem all_int (xs : List Int) (v : Value) (fid : Nat) (fs cs : Array Value) (p : Nat → Bool) (w : World) (hv : SlAt w v 1 xs.length (ints xs)) (hlen : xs.length ≤ 1000000) (hf : Asks Try.prog w fid fs cs xs.length (fun i => (Value.int .i64 (xs.getD i 0))) p) :
  Calls Try.prog 69 #[v, (Value.func (.func fid) fs cs)] w (Ret fun v w' => v = .bool ((List.range xs.length).all p) ∧ Ext NoB w w') := by
 refine calls_enter Try.func69 rfl fun a0 hA0 => ?_
 replace hA0 : Fr 9 [] [(0, v), (1, (Value.func (.func fid) fs cs))] a0 := hA0
 have hS0 : Sep NoB w w [(sl v 1 xs.length (ints xs))] := sep_ro ⟨rfl, hv, trivial⟩
 refine m2 ?_
 refine s2 hA0 (op_box hS0 rfl (hA0.ev rfl) (cs := [(Value.func (.func fid) fs cs)]) rfl) ?_
 rintro a1 _ w3 ⟨b4, rfl, hS5⟩ hA2; clear hA0 hS0 a0
 refine s1 hA2 (op_assign rfl (evc _ _)) fun a6 hA7 => ?_; clear hA2 a1
 refine n4 ?_
 refine s1 hA7 (op_move rfl (hA7.ev rfl)) fun a8 hA9 => ?_; clear hA7 a6
 refine s1 hA9 (op_makeFunc rfl ev0 (ev1 (hA9.ev rfl))) fun a10 hA11 => ?_; clear hA9 a8
 refine s2 hA11 (op_call rfl en_99 (ev2 (hA11.ev rfl) (hA11.ev rfl)) (contf_int xs _ 100 #[] #[(bptr b4 0)] (fun i => !p i) _ (hS5.ok 1 _ rfl) hlen ⟨en_100, fun i hi W hW => clo_int _ _ _ _ _ (p i) W ((hS5.step hW).bk 0 rfl) hf.1 (fun W' hW' => hf.2 i hi W' (hS5.ext.trans (hW.trans hW')))⟩)) ?_
 rintro a12 _ w14 ⟨rfl, hE15⟩ hA13; have hS16 := hS5.step hE15; clear hE15 hA11 hS5 a10
 refine s1 hA13 (op_not rfl (hA13.ev rfl)) fun a17 hA18 => ?_; clear hA13 a12
 refine s1 hA18 (op_assign rfl (hA18.ev rfl)) fun a19 hA20 => ?_; clear hA18 a17
 refine n1 ?_
 refine c_ret ?_
 refine fin_run hA20 (.inl rfl) (run_results1 hA20 rfl (.tmp rfl)) ?_
 exact ⟨congrArg Value.bool (any_not p xs.length), hS16.ext⟩
theorem indexf_rng (xs : List (Int × Int)) (v : Value) (fid : Nat) (fs cs : Array Value) (p : Nat → Bool) (w : World) (hv : SlAt w v 2 xs.length (pairs xs)) (hlen : xs.length ≤ 1000000) (hf : Asks Try.prog w fid fs cs xs.length (fun i => (Value.agg #[(Value.int .i64 ((xs.getD i (0, 0)).1)), (Value.int .i64 ((xs.getD i (0, 0)).2))])) p) :
  Calls Try.prog 118 #[v, (Value.func (.func fid) fs cs)] w (Ret fun v w' => v = .int .i64 (fidx p xs.length) ∧ Ext NoB w w') := by
 refine calls_enter Try.func118 rfl fun a0 hA0 => ?_
 replace hA0 : Fr 19 [] [(0, v), (1, (Value.func (.func fid) fs cs))] a0 := hA0
 have hS0 : Sep NoB w w [(sl v 2 xs.length (pairs xs))] := sep_ro ⟨rfl, hv, trivial⟩
 refine m2 ?_
 refine s1 hA0 (op_assign rfl (evc _ _)) fun a1 hA2 => ?_; clear hA0 a0
 refine n2 ?_
 refine m2 ?_
 refine s1 hA2 (op_move rfl (hA2.ev rfl)) fun a3 hA4 => ?_; clear hA2 a1
 refine s1 hA4 (op_lenS rfl un_50 (hA4.ev rfl) (hS0.ok 0 _ rfl)) fun a5 hA6 => ?_; clear hA4 a3
 refine s1 hA6 (op_move rfl (evc _ _)) fun a7 hA8 => ?_; clear hA6 a5
 refine n1 ?_
 refine c_block ?_
 have hA9 := hA8.as [(8, (Value.int .i64 0)), (7, (Value.int .i64 (xs.length : Int))), (0, v), (1, (Value.func (.func fid) fs cs))] rfl; clear hA8
 refine c_loop (G := Nat) (fun (k : Nat) a_ w_ => Fr 19 [] [(8, (Value.int .i64 (k : Int))), (7, (Value.int .i64 (xs.length : Int))), (0, v), (1, (Value.func (.func fid) fs cs))] a_ ∧ Sep NoB w w_ [(sl v 2 xs.length (pairs xs))] ∧ (k ≤ xs.length) ∧ (∀ i, i < k → p i = false)) (fun k => xs.length - k) 0 ⟨hA9.as _ rfl, hS0, by omega, by omega⟩ ?_
 clear hA9 hS0 a7
 rintro k a10 w12 ⟨hA11, hS13, hk, hn⟩
 refine m2 ?_
 refine s1 hA11 (op_lss rfl (hA11.ev rfl) (hA11.ev rfl)) fun a14 hA15 => ?_; clear hA11 a10
 refine n2 ?_
 by_cases hb16 : (k : Int) < (xs.length : Int)
 ·skip
  rw [decide_eq_true hb16] at hA15
  refine c_true hA15 rfl ?_
  refine c_skip ?_
  refine then_n ?_
  refine c_seq ?_
  refine c_block ?_
  refine m2 ?_
  refine s1 hA15 (op_move rfl (hA15.ev rfl)) fun a17 hA18 => ?_; clear hA15 a14
  refine s1 hA18 (op_assign rfl (hA18.ev rfl)) fun a19 hA20 => ?_; clear hA18 a17
  refine n4 ?_
  refine s1 hA20 (op_move rfl (hA20.ev rfl)) fun a21 hA22 => ?_; clear hA20 a19
  refine s1 hA22 (op_move rfl (hA22.ev rfl)) fun a23 hA24 => ?_; clear hA22 a21
  refine s1 hA24 (op_move rfl (hA24.ev rfl)) fun a25 hA26 => ?_; clear hA24 a23
  refine s1 hA26 (op_indexS rfl un_50 ty_30 (hA26.ev rfl) (i := k) (hA26.ev rfl) (hS13.ok 0 _ rfl) (by decide) (by omega)) fun a27 hA28 => ?_; clear hA26 a25
  refine s1 hA28 (op_loadAE rfl ty_30 (hA28.ev rfl) (hS13.ok 0 _ rfl) (pairs_all (by omega)) rfl (by decide)) fun a29 hA30 => ?_; clear hA28 a27
  refine s2 hA30 (op_callv rfl (hA30.ev rfl) hf.1 (ev1 (hA30.ev rfl)) (hf.2 k (by omega) _ hS13.ext)) ?_
  rintro a31 _ w33 ⟨rfl, hE34⟩ hA32; have hS35 := hS13.step hE34; clear hA30 hS13 a29
  refine n1 ?_
  rcases Bool.eq_false_or_eq_true (p k) with hb36 | hb36
  ·skip
   rw [hb36] at hA32
   refine c_true hA32 rfl ?_
   refine c_seq ?_
   have hA37 := hA32.as [(5, (Value.int .i64 (k : Int)))] rfl; clear hA32
   refine c_region ?_
   refine s1 hA37 (op_move rfl (hA37.ev rfl)) fun a38 hA39 => ?_; clear hA37 a31
   refine s1 hA39 (op_assign rfl (hA39.ev rfl)) fun a40 hA41 => ?_; clear hA39 a38
   refine n1 ?_
   refine c_ret ?_
   refine blk_ret ?_
   refine then_ret ?_
   refine then_ret ?_
   refine blk_ret ?_
   refine then_ret ?_
   refine fin_run hA41 (.inl rfl) (run_results1 hA41 rfl (.tmp rfl)) ?_
   exact ⟨by first | rw [fidx_hit (by omega) hn (by assumption)] | rw [fidx_miss (fun i hi => hn i (by omega))], hS35.ext⟩
  ·skip
   rw [hb36] at hA32
   refine c_false hA32 rfl ?_
   refine c_skip ?_
   refine blk_n ?_
   refine then_n ?_
   have hA42 := hA32.as [(8, (Value.int .i64 (k : Int))), (7, (Value.int .i64 (xs.length : Int))), (0, v), (1, (Value.func (.func fid) fs cs))] rfl; clear hA32
   refine c_region ?_
   refine s1 hA42 (op_add rfl (hA42.ev rfl) (evc _ _) (by omega) (by omega)) fun a43 hA44 => ?_; clear hA42 a31
   refine s1 hA44 (op_move rfl (hA44.ev rfl)) fun a45 hA46 => ?_; clear hA44 a43
   refine wl_nil ?_
   exact then_n ⟨k + 1, ⟨hA46.as _ rfl, hS35, by omega, (fun i hi => by rcases Nat.lt_succ_iff_lt_or_eq.1 hi with h | h; exact hn i h; subst h; assumption)⟩, by omega⟩
 ·skip
  rw [decide_eq_false hb16] at hA15
  refine c_false hA15 rfl ?_
  refine c_exit ?_
  refine then_exit ?_
  refine then_exit ?_
  refine blk_hit ?_
  refine then_n ?_
  refine m2 ?_
  refine s1 hA15 (op_assign rfl (evc _ _)) fun a47 hA48 => ?_; clear hA15 a14
  refine n1 ?_
  refine c_ret ?_
  refine fin_run hA48 (.inl rfl) (run_results1 hA48 rfl (.tmp rfl)) ?_
  exact ⟨by first | rw [fidx_hit (by omega) hn (by assumption)] | rw [fidx_miss (fun i hi => hn i (by omega))], hS13.ext⟩
theorem contf_rng (xs : List (Int × Int)) (v : Value) (fid : Nat) (fs cs : Array Value) (p : Nat → Bool) (w : World) (hv : SlAt w v 2 xs.length (pairs xs)) (hlen : xs.length ≤ 1000000) (hf : Asks Try.prog w fid fs cs xs.length (fun i => (Value.agg #[(Value.int .i64 ((xs.getD i (0, 0)).1)), (Value.int .i64 ((xs.getD i (0, 0)).2))])) p) :
  Calls Try.prog 108 #[v, (Value.func (.func fid) fs cs)] w (Ret fun v w' => v = .bool ((List.range xs.length).any p) ∧ Ext NoB w w') := by
 refine calls_enter Try.func108 rfl fun a0 hA0 => ?_
 replace hA0 : Fr 9 [] [(0, v), (1, (Value.func (.func fid) fs cs))] a0 := hA0
 have hS0 : Sep NoB w w [(sl v 2 xs.length (pairs xs))] := sep_ro ⟨rfl, hv, trivial⟩
 refine m2 ?_
 refine s1 hA0 (op_assign rfl (evc _ _)) fun a1 hA2 => ?_; clear hA0 a0
 refine n4 ?_
 refine s1 hA2 (op_move rfl (hA2.ev rfl)) fun a3 hA4 => ?_; clear hA2 a1
 refine s1 hA4 (op_move rfl (hA4.ev rfl)) fun a5 hA6 => ?_; clear hA4 a3
 refine s2 hA6 (op_call rfl en_118 (ev2 (hA6.ev rfl) (hA6.ev rfl)) (indexf_rng xs _ _ _ _ p _ (hS0.ok 0 _ rfl) hlen (hf.step hS0.ext))) ?_
 rintro a7 _ w9 ⟨rfl, hE10⟩ hA8; have hS11 := hS0.step hE10; clear hE10 hA6 hS0 a5
 refine s1 hA8 (op_geq rfl (hA8.ev rfl) (evc _ _)) fun a12 hA13 => ?_; clear hA8 a7
 refine s1 hA13 (op_assign rfl (hA13.ev rfl)) fun a14 hA15 => ?_; clear hA13 a12
 refine n1 ?_
 refine c_ret ?_
 refine fin_run hA15 (.inl rfl) (run_results1 hA15 rfl (.tmp rfl)) ?_
 exact ⟨congrArg Value.bool (fidx_any p xs.length), hS11.ext⟩
theorem indexf_tab (xs : List TabD) (lr lb : Nat → Value) (v : Value) (fid : Nat) (fs cs : Array Value) (p : Nat → Bool) (w : World) (hv : SlAt w v 5 xs.length (tabsC lr lb xs)) (hlen : xs.length ≤ 1000000) (hf : Asks Try.prog w fid fs cs xs.length (fun i => (Value.agg #[(Value.int .i64 ((xs.getD i tab0).frm)), (Value.int .i64 ((xs.getD i tab0).dst)), (lr i), (lb i), (Value.int .i64 ((xs.getD i tab0).err))])) p) :
  Calls Try.prog 109 #[v, (Value.func (.func fid) fs cs)] w (Ret fun v w' => v = .int .i64 (fidx p xs.length) ∧ Ext NoB w w') := by
 refine calls_enter Try.func109 rfl fun a0 hA0 => ?_
 replace hA0 : Fr 19 [] [(0, v), (1, (Value.func (.func fid) fs cs))] a0 := hA0
 have hS0 : Sep NoB w w [(sl v 5 xs.length (tabsC lr lb xs))] := sep_ro ⟨rfl, hv, trivial⟩
 refine m2 ?_
 refine s1 hA0 (op_assign rfl (evc _ _)) fun a1 hA2 => ?_; clear hA0 a0
 refine n2 ?_
 refine m2 ?_
 refine s1 hA2 (op_move rfl (hA2.ev rfl)) fun a3 hA4 => ?_; clear hA2 a1
 refine s1 hA4 (op_lenS rfl un_34 (hA4.ev rfl) (hS0.ok 0 _ rfl)) fun a5 hA6 => ?_; clear hA4 a3
 refine s1 hA6 (op_move rfl (evc _ _)) fun a7 hA8 => ?_; clear hA6 a5
 refine n1 ?_
 refine c_block ?_
 have hA9 := hA8.as [(8, (Value.int .i64 0)), (7, (Value.int .i64 (xs.length : Int))), (0, v), (1, (Value.func (.func fid) fs cs))] rfl; clear hA8
 refine c_loop (G := Nat) (fun (k : Nat) a_ w_ => Fr 19 [] [(8, (Value.int .i64 (k : Int))), (7, (Value.int .i64 (xs.length : Int))), (0, v), (1, (Value.func (.func fid) fs cs))] a_ ∧ Sep NoB w w_ [(sl v 5 xs.length (tabsC lr lb xs))] ∧ (k ≤ xs.length) ∧ (∀ i, i < k → p i = false)) (fun k => xs.length - k) 0 ⟨hA9.as _ rfl, hS0, by omega, by omega⟩ ?_
 clear hA9 hS0 a7
 rintro k a10 w12 ⟨hA11, hS13, hk, hn⟩
 refine m2 ?_
 refine s1 hA11 (op_lss rfl (hA11.ev rfl) (hA11.ev rfl)) fun a14 hA15 => ?_; clear hA11 a10
 refine n2 ?_
 by_cases hb16 : (k : Int) < (xs.length : Int)
 ·skip
  rw [decide_eq_true hb16] at hA15
  refine c_true hA15 rfl ?_
  refine c_skip ?_
  refine then_n ?_
  refine c_seq ?_
  refine c_block ?_
  refine m2 ?_
  refine s1 hA15 (op_move rfl (hA15.ev rfl)) fun a17 hA18 => ?_; clear hA15 a14
  refine s1 hA18 (op_assign rfl (hA18.ev rfl)) fun a19 hA20 => ?_; clear hA18 a17
  refine n4 ?_
  refine s1 hA20 (op_move rfl (hA20.ev rfl)) fun a21 hA22 => ?_; clear hA20 a19
  refine s1 hA22 (op_move rfl (hA22.ev rfl)) fun a23 hA24 => ?_; clear hA22 a21
  refine s1 hA24 (op_move rfl (hA24.ev rfl)) fun a25 hA26 => ?_; clear hA24 a23
  refine s1 hA26 (op_indexS rfl un_34 ty_106 (hA26.ev rfl) (i := k) (hA26.ev rfl) (hS13.ok 0 _ rfl) (by decide) (by omega)) fun a27 hA28 => ?_; clear hA26 a25
  refine s1 hA28 (op_loadAE rfl ty_106 (hA28.ev rfl) (hS13.ok 0 _ rfl) (tabs_all (by omega)) rfl (by decide)) fun a29 hA30 => ?_; clear hA28 a27
  refine s2 hA30 (op_callv rfl (hA30.ev rfl) hf.1 (ev1 (hA30.ev rfl)) (hf.2 k (by omega) _ hS13.ext)) ?_
  rintro a31 _ w33 ⟨rfl, hE34⟩ hA32; have hS35 := hS13.step hE34; clear hA30 hS13 a29
  refine n1 ?_
  rcases Bool.eq_false_or_eq_true (p k) with hb36 | hb36
  ·skip
   rw [hb36] at hA32
   refine c_true hA32 rfl ?_
   refine c_seq ?_
   have hA37 := hA32.as [(5, (Value.int .i64 (k : Int)))] rfl; clear hA32
   refine c_region ?_
   refine s1 hA37 (op_move rfl (hA37.ev rfl)) fun a38 hA39 => ?_; clear hA37 a31
   refine s1 hA39 (op_assign rfl (hA39.ev rfl)) fun a40 hA41 => ?_; clear hA39 a38
   refine n1 ?_
   refine c_ret ?_
   refine blk_ret ?_
   refine then_ret ?_
   refine then_ret ?_
   refine blk_ret ?_
   refine then_ret ?_
   refine fin_run hA41 (.inl rfl) (run_results1 hA41 rfl (.tmp rfl)) ?_
   exact ⟨by first | rw [fidx_hit (by omega) hn (by assumption)] | rw [fidx_miss (fun i hi => hn i (by omega))], hS35.ext⟩
  ·skip
   rw [hb36] at hA32
   refine c_false hA32 rfl ?_
   refine c_skip ?_
   refine blk_n ?_
   refine then_n ?_
   have hA42 := hA32.as [(8, (Value.int .i64 (k : Int))), (7, (Value.int .i64 (xs.length : Int))), (0, v), (1, (Value.func (.func fid) fs cs))] rfl; clear hA32
   refine c_region ?_
   refine s1 hA42 (op_add rfl (hA42.ev rfl) (evc _ _) (by omega) (by omega)) fun a43 hA44 => ?_; clear hA42 a31
   refine s1 hA44 (op_move rfl (hA44.ev rfl)) fun a45 hA46 => ?_; clear hA44 a43
   refine wl_nil ?_
   exact then_n ⟨k + 1, ⟨hA46.as _ rfl, hS35, by omega, (fun i hi => by rcases Nat.lt_succ_iff_lt_or_eq.1 hi with h | h; exact hn i h; subst h; assumption)⟩, by omega⟩
 ·skip
  rw [decide_eq_false hb16] at hA15
  refine c_false hA15 rfl ?_
  refine c_exit ?_
  refine then_exit ?_
  refine then_exit ?_
  refine blk_hit ?_
  refine then_n ?_
  refine m2 ?_
  refine s1 hA15 (op_assign rfl (evc _ _)) fun a47 hA48 => ?_; clear hA15 a14
  refine n1 ?_
  refine c_ret ?_
  refine fin_run hA48 (.inl rfl) (run_results1 hA48 rfl (.tmp rfl)) ?_
  exact ⟨by first | rw [fidx_hit (by omega) hn (by assumption)] | rw [fidx_miss (fun i hi => hn i (by omega))], hS13.ext⟩
theorem contf_tab (xs : List TabD) (lr lb : Nat → Value) (v : Value) (fid : Nat) (fs cs : Array Value) (p : Nat → Bool) (w : World) (hv : SlAt w v 5 xs.length (tabsC lr lb xs)) (hlen : xs.length ≤ 1000000) (hf : Asks Try.prog w fid fs cs xs.length (fun i => (Value.agg #[(Value.int .i64 ((xs.getD i tab0).frm)), (Value.int .i64 ((xs.getD i tab0).dst)), (lr i), (lb i), (Value.int .i64 ((xs.getD i tab0).err))])) p) :
  Calls Try.prog 89 #[v, (Value.func (.func fid) fs cs)] w (Ret fun v w' => v = .bool ((List.range xs.length).any p) ∧ Ext NoB w w') := by
 refine calls_enter Try.func89 rfl fun a0 hA0 => ?_
 replace hA0 : Fr 9 [] [(0, v), (1, (Value.func (.func fid) fs cs))] a0 := hA0
 have hS0 : Sep NoB w w [(sl v 5 xs.length (tabsC lr lb xs))] := sep_ro ⟨rfl, hv, trivial⟩
 refine m2 ?_
 refine s1 hA0 (op_assign rfl (evc _ _)) fun a1 hA2 => ?_; clear hA0 a0
 refine n4 ?_
 refine s1 hA2 (op_move rfl (hA2.ev rfl)) fun a3 hA4 => ?_; clear hA2 a1
 refine s1 hA4 (op_move rfl (hA4.ev rfl)) fun a5 hA6 => ?_; clear hA4 a3
 refine s2 hA6 (op_call rfl en_109 (ev2 (hA6.ev rfl) (hA6.ev rfl)) (indexf_tab xs lr lb _ _ _ _ p _ (hS0.ok 0 _ rfl) hlen (hf.step hS0.ext))) ?_
 rintro a7 _ w9 ⟨rfl, hE10⟩ hA8; have hS11 := hS0.step hE10; clear hE10 hA6 hS0 a5
 refine s1 hA8 (op_geq rfl (hA8.ev rfl) (evc _ _)) fun a12 hA13 => ?_; clear hA8 a7
 refine s1 hA13 (op_assign rfl (hA13.ev rfl)) fun a14 hA15 => ?_; clear hA13 a12
 refine n1 ?_
 refine c_ret ?_
 refine fin_run hA15 (.inl rfl) (run_results1 hA15 rfl (.tmp rfl)) ?_
 exact ⟨congrArg Value.bool (fidx_any p xs.length), hS11.ext⟩
theorem clo_tab (x1 x2 : Int) (u1 u2 : Value) (hu1 : u1.oneCell' = true) (hu2 : u2.oneCell' = true) (x3 : Int) (b fid : Nat) (fs cs : Array Value) (q : Bool) (w : World) (hb : (blk b 127 [.func (.func fid) fs cs]).p w) (hen : ∀ args W, (callFunc fid args).run Try.prog W = .ok (.enter fid args) W) (hf : ∀ W, Ext NoB w W → Calls Try.prog fid (fs ++ #[(Value.agg #[(Value.int .i64 x1), (Value.int .i64 x2), u1, u2, (Value.int .i64 x3)])] ++ cs) W (Ret fun v w' => v = .bool q ∧ Ext NoB W w')) :
  Calls Try.prog 90 #[(Value.agg #[(Value.int .i64 x1), (Value.int .i64 x2), u1, u2, (Value.int .i64 x3)]), (bptr b 0)] w (Ret fun v w' => v = .bool (!q) ∧ Ext NoB w w') := by
 refine calls_enter Try.func90 rfl fun a0 hA0 => ?_
 replace hA0 : Fr 8 [] [(0, (Value.agg #[(Value.int .i64 x1), (Value.int .i64 x2), u1, u2, (Value.int .i64 x3)])), (1, (bptr b 0))] a0 := hA0
 have hS0 : Sep NoB w w [(rob b 127 [(Value.func (.func fid) fs cs)])] := sep_ro ⟨rfl, hb, trivial⟩
 refine m2 ?_
 refine s2 hA0 (op_box hS0 rfl (hA0.ev rfl) (cs := [(Value.int .i64 x1), (Value.int .i64 x2), u1, u2, (Value.int .i64 x3)]) rfl) ?_
 rintro a1 _ w3 ⟨b4, rfl, hS5⟩ hA2; clear hA0 hS0 a0
 refine s1 hA2 (op_assign rfl (evc _ _)) fun a6 hA7 => ?_; clear hA2 a1
 refine n4 ?_
 refine s1 hA7 (op_load1 rfl ty_127 (hA7.ev rfl) (hS5.rk 1 rfl) rfl) fun a8 hA9 => ?_; clear hA7 a6
 refine s1 hA9 (op_loadA rfl ty_106 (hA9.ev rfl) (hS5.bk 0 rfl) (l := [(Value.int .i64 x1), (Value.int .i64 x2), u1, u2, (Value.int .i64 x3)]) rfl rfl) fun a10 hA11 => ?_; clear hA9 a8
 refine s2 hA11 (op_callv rfl (hA11.ev rfl) hen (ev1 (hA11.ev rfl)) (hf _ hS5.ext)) ?_
 rintro a12 _ w14 ⟨rfl, hE15⟩ hA13; have hS16 := hS5.step hE15; clear hA11 hS5 a10
 refine s1 hA13 (op_not rfl (hA13.ev rfl)) fun a17 hA18 => ?_; clear hA13 a12
 refine s1 hA18 (op_assign rfl (hA18.ev rfl)) fun a19 hA20 => ?_; clear hA18 a17
 refine n1 ?_
 refine c_ret ?_
 refine fin_run hA20 (.inl rfl) (run_results1 hA20 rfl (.tmp rfl)) ?_
 exact ⟨rfl, hS16.ext⟩
theorem all_tab (xs : List TabD) (lr lb : Nat → Value) (v : Value) (fid : Nat) (fs cs : Array Value) (p : Nat → Bool) (w : World) (hv : SlAt w v 5 xs.length (tabsC lr lb xs)) (hlen : xs.length ≤ 1000000) (hf : Asks Try.prog w fid fs cs xs.length (fun i => (Value.agg #[(Value.int .i64 ((xs.getD i tab0).frm)), (Value.int .i64 ((xs.getD i tab0).dst)), (lr i), (lb i), (Value.int .i64 ((xs.getD i tab0).err))])) p) (hone : ∀ i, i < xs.length → (lr i).oneCell' = true ∧ (lb i).oneCell' = true) :
  Calls Try.prog 61 #[v, (Value.func (.func fid) fs cs)] w (Ret fun v w' => v = .bool ((List.range xs.length).all p) ∧ Ext NoB w w') := by
 refine calls_enter Try.func61 rfl fun a0 hA0 => ?_
 replace hA0 : Fr 9 [] [(0, v), (1, (Value.func (.func fid) fs cs))] a0 := hA0
 have hS0 : Sep NoB w w [(sl v 5 xs.length (tabsC lr lb xs))] := sep_ro ⟨rfl, hv, trivial⟩
 refine m2 ?_
 refine s2 hA0 (op_box hS0 rfl (hA0.ev rfl) (cs := [(Value.func (.func fid) fs cs)]) rfl) ?_
 rintro a1 _ w3 ⟨b4, rfl, hS5⟩ hA2; clear hA0 hS0 a0
 refine s1 hA2 (op_assign rfl (evc _ _)) fun a6 hA7 => ?_; clear hA2 a1
 refine n4 ?_
 refine s1 hA7 (op_move rfl (hA7.ev rfl)) fun a8 hA9 => ?_; clear hA7 a6
 refine s1 hA9 (op_makeFunc rfl ev0 (ev1 (hA9.ev rfl))) fun a10 hA11 => ?_; clear hA9 a8
 refine s2 hA11 (op_call rfl en_89 (ev2 (hA11.ev rfl) (hA11.ev rfl)) (contf_tab xs lr lb _ 90 #[] #[(bptr b4 0)] (fun i => !p i) _ (hS5.ok 1 _ rfl) hlen ⟨en_90, fun i hi W hW => clo_tab _ _ _ _ (hone i hi).1 (hone i hi).2 _ _ _ _ _ (p i) W ((hS5.step hW).bk 0 rfl) hf.1 (fun W' hW' => hf.2 i hi W' (hS5.ext.trans (hW.trans hW')))⟩)) ?_
 rintro a12 _ w14 ⟨rfl, hE15⟩ hA13; have hS16 := hS5.step hE15; clear hE15 hA11 hS5 a10
 refine s1 hA13 (op_not rfl (hA13.ev rfl)) fun a17 hA18 => ?_; clear hA13 a12
 refine s1 hA18 (op_assign rfl (hA18.ev rfl)) fun a19 hA20 => ?_; clear hA18 a17
 refine n1 ?_
 refine c_ret ?_
 refine fin_run hA20 (.inl rfl) (run_results1 hA20 rfl (.tmp rfl)) ?_
 exact ⟨congrArg Value.bool (any_not p xs.length), hS16.ext⟩
theorem indexf_mac (xs : List MacD) (lk : Nat → Value) (v : Value) (fid : Nat) (fs cs : Array Value) (p : Nat → Bool) (w : World) (hv : SlAt w v 2 xs.length (macsC lk xs)) (hlen : xs.length ≤ 1000000) (hf : Asks Try.prog w fid fs cs xs.length (fun i => (Value.agg #[(Value.int .i64 ((xs.getD i mac0).scale)), (lk i)])) p) :
  Calls Try.prog 110 #[v, (Value.func (.func fid) fs cs)] w (Ret fun v w' => v = .int .i64 (fidx p xs.length) ∧ Ext NoB w w') := by
 refine calls_enter Try.func110 rfl fun a0 hA0 => ?_
 replace hA0 : Fr 19 [] [(0, v), (1, (Value.func (.func fid) fs cs))] a0 := hA0
 have hS0 : Sep NoB w w [(sl v 2 xs.length (macsC lk xs))] := sep_ro ⟨rfl, hv, trivial⟩
 refine m2 ?_
 refine s1 hA0 (op_assign rfl (evc _ _)) fun a1 hA2 => ?_; clear hA0 a0
 refine n2 ?_
 refine m2 ?_
 refine s1 hA2 (op_move rfl (hA2.ev rfl)) fun a3 hA4 => ?_; clear hA2 a1
 refine s1 hA4 (op_lenS rfl un_35 (hA4.ev rfl) (hS0.ok 0 _ rfl)) fun a5 hA6 => ?_; clear hA4 a3
 refine s1 hA6 (op_move rfl (evc _ _)) fun a7 hA8 => ?_; clear hA6 a5
 refine n1 ?_
 refine c_block ?_
 have hA9 := hA8.as [(8, (Value.int .i64 0)), (7, (Value.int .i64 (xs.length : Int))), (0, v), (1, (Value.func (.func fid) fs cs))] rfl; clear hA8
 refine c_loop (G := Nat) (fun (k : Nat) a_ w_ => Fr 19 [] [(8, (Value.int .i64 (k : Int))), (7, (Value.int .i64 (xs.length : Int))), (0, v), (1, (Value.func (.func fid) fs cs))] a_ ∧ Sep NoB w w_ [(sl v 2 xs.length (macsC lk xs))] ∧ (k ≤ xs.length) ∧ (∀ i, i < k → p i = false)) (fun k => xs.length - k) 0 ⟨hA9.as _ rfl, hS0, by omega, by omega⟩ ?_
 clear hA9 hS0 a7
 rintro k a10 w12 ⟨hA11, hS13, hk, hn⟩
 refine m2 ?_
 refine s1 hA11 (op_lss rfl (hA11.ev rfl) (hA11.ev rfl)) fun a14 hA15 => ?_; clear hA11 a10
 refine n2 ?_
 by_cases hb16 : (k : Int) < (xs.length : Int)
 ·skip
  rw [decide_eq_true hb16] at hA15
  refine c_true hA15 rfl ?_
  refine c_skip ?_
  refine then_n ?_
  refine c_seq ?_
  refine c_block ?_
  refine m2 ?_
  refine s1 hA15 (op_move rfl (hA15.ev rfl)) fun a17 hA18 => ?_; clear hA15 a14
  refine s1 hA18 (op_assign rfl (hA18.ev rfl)) fun a19 hA20 => ?_; clear hA18 a17
  refine n4 ?_
  refine s1 hA20 (op_move rfl (hA20.ev rfl)) fun a21 hA22 => ?_; clear hA20 a19
  refine s1 hA22 (op_move rfl (hA22.ev rfl)) fun a23 hA24 => ?_; clear hA22 a21
  refine s1 hA24 (op_move rfl (hA24.ev rfl)) fun a25 hA26 => ?_; clear hA24 a23
  refine s1 hA26 (op_indexS rfl un_35 ty_103 (hA26.ev rfl) (i := k) (hA26.ev rfl) (hS13.ok 0 _ rfl) (by decide) (by omega)) fun a27 hA28 => ?_; clear hA26 a25
  refine s1 hA28 (op_loadAE rfl ty_103 (hA28.ev rfl) (hS13.ok 0 _ rfl) (macs_all (by omega)) rfl (by decide)) fun a29 hA30 => ?_; clear hA28 a27
  refine s2 hA30 (op_callv rfl (hA30.ev rfl) hf.1 (ev1 (hA30.ev rfl)) (hf.2 k (by omega) _ hS13.ext)) ?_
  rintro a31 _ w33 ⟨rfl, hE34⟩ hA32; have hS35 := hS13.step hE34; clear hA30 hS13 a29
  refine n1 ?_
  rcases Bool.eq_false_or_eq_true (p k) with hb36 | hb36
  ·skip
   rw [hb36] at hA32
   refine c_true hA32 rfl ?_
   refine c_seq ?_
   have hA37 := hA32.as [(5, (Value.int .i64 (k : Int)))] rfl; clear hA32
   refine c_region ?_
   refine s1 hA37 (op_move rfl (hA37.ev rfl)) fun a38 hA39 => ?_; clear hA37 a31
   refine s1 hA39 (op_assign rfl (hA39.ev rfl)) fun a40 hA41 => ?_; clear hA39 a38
   refine n1 ?_
   refine c_ret ?_
   refine blk_ret ?_
   refine then_ret ?_
   refine then_ret ?_
   refine blk_ret ?_
   refine then_ret ?_
   refine fin_run hA41 (.inl rfl) (run_results1 hA41 rfl (.tmp rfl)) ?_
   exact ⟨by first | rw [fidx_hit (by omega) hn (by assumption)] | rw [fidx_miss (fun i hi => hn i (by omega))], hS35.ext⟩
  ·skip
   rw [hb36] at hA32
   refine c_false hA32 rfl ?_
   refine c_skip ?_
   refine blk_n ?_
   refine then_n ?_
   have hA42 := hA32.as [(8, (Value.int .i64 (k : Int))), (7, (Value.int .i64 (xs.length : Int))), (0, v), (1, (Value.func (.func fid) fs cs))] rfl; clear hA32
   refine c_region ?_
   refine s1 hA42 (op_add rfl (hA42.ev rfl) (evc _ _) (by omega) (by omega)) fun a43 hA44 => ?_; clear hA42 a31
   refine s1 hA44 (op_move rfl (hA44.ev rfl)) fun a45 hA46 => ?_; clear hA44 a43
   refine wl_nil ?_
   exact then_n ⟨k + 1, ⟨hA46.as _ rfl, hS35, by omega, (fun i hi => by rcases Nat.lt_succ_iff_lt_or_eq.1 hi with h | h; exact hn i h; subst h; assumption)⟩, by omega⟩
 ·skip
  rw [decide_eq_false hb16] at hA15
  refine c_false hA15 rfl ?_
  refine c_exit ?_
  refine then_exit ?_
  refine then_exit ?_
  refine blk_hit ?_
  refine then_n ?_
  refine m2 ?_
  refine s1 hA15 (op_assign rfl (evc _ _)) fun a47 hA48 => ?_; clear hA15 a14
  refine n1 ?_
  refine c_ret ?_
  refine fin_run hA48 (.inl rfl) (run_results1 hA48 rfl (.tmp rfl)) ?_
  exact ⟨by first | rw [fidx_hit (by omega) hn (by assumption)] | rw [fidx_miss (fun i hi => hn i (by omega))], hS13.ext⟩
theorem contf_mac (xs : List MacD) (lk : Nat → Value) (v : Value) (fid : Nat) (fs cs : Array Value) (p : Nat → Bool) (w : World) (hv : SlAt w v 2 xs.length (macsC lk xs)) (hlen : xs.length ≤ 1000000) (hf : Asks Try.prog w fid fs cs xs.length (fun i => (Value.agg #[(Value.int .i64 ((xs.getD i mac0).scale)), (lk i)])) p) :
  Calls Try.prog 91 #[v, (Value.func (.func fid) fs cs)] w (Ret fun v w' => v = .bool ((List.range xs.length).any p) ∧ Ext NoB w w') := by
 refine calls_enter Try.func91 rfl fun a0 hA0 => ?_
 replace hA0 : Fr 9 [] [(0, v), (1, (Value.func (.func fid) fs cs))] a0 := hA0
 have hS0 : Sep NoB w w [(sl v 2 xs.length (macsC lk xs))] := sep_ro ⟨rfl, hv, trivial⟩
 refine m2 ?_
 refine s1 hA0 (op_assign rfl (evc _ _)) fun a1 hA2 => ?_; clear hA0 a0
 refine n4 ?_
 refine s1 hA2 (op_move rfl (hA2.ev rfl)) fun a3 hA4 => ?_; clear hA2 a1
 refine s1 hA4 (op_move rfl (hA4.ev rfl)) fun a5 hA6 => ?_; clear hA4 a3
 refine s2 hA6 (op_call rfl en_110 (ev2 (hA6.ev rfl) (hA6.ev rfl)) (indexf_mac xs lk _ _ _ _ p _ (hS0.ok 0 _ rfl) hlen (hf.step hS0.ext))) ?_
 rintro a7 _ w9 ⟨rfl, hE10⟩ hA8; have hS11 := hS0.step hE10; clear hE10 hA6 hS0 a5
 refine s1 hA8 (op_geq rfl (hA8.ev rfl) (evc _ _)) fun a12 hA13 => ?_; clear hA8 a7
 refine s1 hA13 (op_assign rfl (hA13.ev rfl)) fun a14 hA15 => ?_; clear hA13 a12
 refine n1 ?_
 refine c_ret ?_
 refine fin_run hA15 (.inl rfl) (run_results1 hA15 rfl (.tmp rfl)) ?_
 exact ⟨congrArg Value.bool (fidx_any p xs.length), hS11.ext⟩
theorem clo_mac (x1 : Int) (u1 : Value) (hu1 : u1.oneCell' = true) (b fid : Nat) (fs cs : Array Value) (q : Bool) (w : World) (hb : (blk b 129 [.func (.func fid) fs cs]).p w) (hen : ∀ args W, (callFunc fid args).run Try.prog W = .ok (.enter fid args) W) (hf : ∀ W, Ext NoB w W → Calls Try.prog fid (fs ++ #[(Value.agg #[(Value.int .i64 x1), u1])] ++ cs) W (Ret fun v w' => v = .bool q ∧ Ext NoB W w')) :
  Calls Try.prog 92 #[(Value.agg #[(Value.int .i64 x1), u1]), (bptr b 0)] w (Ret fun v w' => v = .bool (!q) ∧ Ext NoB w w') := by
 refine calls_enter Try.func92 rfl fun a0 hA0 => ?_
 replace hA0 : Fr 8 [] [(0, (Value.agg #[(Value.int .i64 x1), u1])), (1, (bptr b 0))] a0 := hA0
 have hS0 : Sep NoB w w [(rob b 129 [(Value.func (.func fid) fs cs)])] := sep_ro ⟨rfl, hb, trivial⟩
 refine m2 ?_
 refine s2 hA0 (op_box hS0 rfl (hA0.ev rfl) (cs := [(Value.int .i64 x1), u1]) rfl) ?_
 rintro a1 _ w3 ⟨b4, rfl, hS5⟩ hA2; clear hA0 hS0 a0
 refine s1 hA2 (op_assign rfl (evc _ _)) fun a6 hA7 => ?_; clear hA2 a1
 refine n4 ?_
 refine s1 hA7 (op_load1 rfl ty_129 (hA7.ev rfl) (hS5.rk 1 rfl) rfl) fun a8 hA9 => ?_; clear hA7 a6
 refine s1 hA9 (op_loadA rfl ty_103 (hA9.ev rfl) (hS5.bk 0 rfl) (l := [(Value.int .i64 x1), u1]) rfl rfl) fun a10 hA11 => ?_; clear hA9 a8
 refine s2 hA11 (op_callv rfl (hA11.ev rfl) hen (ev1 (hA11.ev rfl)) (hf _ hS5.ext)) ?_
 rintro a12 _ w14 ⟨rfl, hE15⟩ hA13; have hS16 := hS5.step hE15; clear hA11 hS5 a10
 refine s1 hA13 (op_not rfl (hA13.ev rfl)) fun a17 hA18 => ?_; clear hA13 a12
 refine s1 hA18 (op_assign rfl (hA18.ev rfl)) fun a19 hA20 => ?_; clear hA18 a17
 refine n1 ?_
 refine c_ret ?_
 refine fin_run hA20 (.inl rfl) (run_results1 hA20 rfl (.tmp rfl)) ?_
 exact ⟨rfl, hS16.ext⟩
theorem all_mac (xs : List MacD) (lk : Nat → Value) (v : Value) (fid : Nat) (fs cs : Array Value) (p : Nat → Bool) (w : World) (hv : SlAt w v 2 xs.length (macsC lk xs)) (hlen : xs.length ≤ 1000000) (hf : Asks Try.prog w fid fs cs xs.length (fun i => (Value.agg #[(Value.int .i64 ((xs.getD i mac0).scale)), (lk i)])) p) (hone : ∀ i, i < xs.length → (lk i).oneCell' = true) :
  Calls Try.prog 63 #[v, (Value.func (.func fid) fs cs)] w (Ret fun v w' => v = .bool ((List.range xs.length).all p) ∧ Ext NoB w w') := by
 refine calls_enter Try.func63 rfl fun a0 hA0 => ?_
 replace hA0 : Fr 9 [] [(0, v), (1, (Value.func (.func fid) fs cs))] a0 := hA0
 have hS0 : Sep NoB w w [(sl v 2 xs.length (macsC lk xs))] := sep_ro ⟨rfl, hv, trivial⟩
 refine m2 ?_
 refine s2 hA0 (op_box hS0 rfl (hA0.ev rfl) (cs := [(Value.func (.func fid) fs cs)]) rfl) ?_
 rintro a1 _ w3 ⟨b4, rfl, hS5⟩ hA2; clear hA0 hS0 a0
 refine s1 hA2 (op_assign rfl (evc _ _)) fun a6 hA7 => ?_; clear hA2 a1
 refine n4 ?_
 refine s1 hA7 (op_move rfl (hA7.ev rfl)) fun a8 hA9 => ?_; clear hA7 a6
 refine s1 hA9 (op_makeFunc rfl ev0 (ev1 (hA9.ev rfl))) fun a10 hA11 => ?_; clear hA9 a8
 refine s2 hA11 (op_call rfl en_91 (ev2 (hA11.ev rfl) (hA11.ev rfl)) (contf_mac xs lk _ 92 #[] #[(bptr b4 0)] (fun i => !p i) _ (hS5.ok 1 _ rfl) hlen ⟨en_92, fun i hi W hW => clo_mac _ _ (hone i hi) _ _ _ _ (p i) W ((hS5.step hW).bk 0 rfl) hf.1 (fun W' hW' => hf.2 i hi W' (hS5.ext.trans (hW.trans hW')))⟩)) ?_
 rintro a12 _ w14 ⟨rfl, hE15⟩ hA13; have hS16 := hS5.step hE15; clear hE15 hA11 hS5 a10
 refine s1 hA13 (op_not rfl (hA13.ev rfl)) fun a17 hA18 => ?_; clear hA13 a12
 refine s1 hA18 (op_assign rfl (hA18.ev rfl)) fun a19 hA20 => ?_; clear hA18 a17
 refine n1 ?_
 refine c_ret ?_
 refine fin_run hA20 (.inl rfl) (run_results1 hA20 rfl (.tmp rfl)) ?_
 exact ⟨congrArg Value.bool (any_not p xs.length), hS16.ext⟩
end Go.Proofs.Ytohgladndklciaa

namespace Go.Proofs.Ytohgladndklciaa
open Go.RowKit Go.Shelf Go.Eng Go.Hard
theorem en_123 : ∀ args w, (callFunc 123 args).run Try.prog w = .ok (.enter 123 args) w := enters_of Try.func123 (by kernel_rfl) rfl
theorem fd_46_3 : fldK Try.prog 46 3 = some 3 := by kernel_rfl
theorem ty_44 : tyK Try.prog 44 = some (false, 1) := by kernel_rfl
theorem index_ok (xs : List Int) (x : Int) (v : Value) (w : World) (hv : SlAt w v 1 xs.length (ints xs)) (hlen : xs.length ≤ 1000000) :
  Calls Try.prog 123 #[v, (Value.int .i64 x)] w (Ret fun v w' => v = .int .i64 (fidx (fun i => decide (x = xs.getD i 0)) xs.length) ∧ Ext NoB w w') := by
 refine calls_enter Try.func123 rfl fun a0 hA0 => ?_
 replace hA0 : Fr 19 [] [(0, v), (1, (Value.int .i64 x))] a0 := hA0
 have hS0 : Sep NoB w w [(sl v 1 xs.length (ints xs))] := sep_ro ⟨rfl, hv, trivial⟩
 refine m2 ?_
 refine s1 hA0 (op_assign rfl (evc _ _)) fun a1 hA2 => ?_; clear hA0 a0
 refine n2 ?_
 refine m2 ?_
 refine s1 hA2 (op_move rfl (hA2.ev rfl)) fun a3 hA4 => ?_; clear hA2 a1
 refine s1 hA4 (op_lenS rfl un_44 (hA4.ev rfl) (hS0.sk 0 rfl)) fun a5 hA6 => ?_; clear hA4 a3
 refine s1 hA6 (op_move rfl (evc _ _)) fun a7 hA8 => ?_; clear hA6 a5
 refine n1 ?_
 refine c_block ?_
 have hA9 := hA8.as [(8, (Value.int .i64 0)), (7, (Value.int .i64 (xs.length : Int))), (0, v), (1, (Value.int .i64 x))] rfl; clear hA8
 refine c_loop (G := Nat) (fun (k : Nat) a_ w_ => Fr 19 [] [(8, (Value.int .i64 (k : Int))), (7, (Value.int .i64 (xs.length : Int))), (0, v), (1, (Value.int .i64 x))] a_ ∧ Sep NoB w w_ [(sl v 1 xs.length (ints xs))] ∧ (k ≤ xs.length) ∧ (∀ i, i < k → decide (x = xs.getD i 0) = false)) (fun k => xs.length - k) 0 ⟨hA9.as _ rfl, hS0, by omega, by omega⟩ ?_
 clear hA9 hS0 a7
 rintro k a10 w12 ⟨hA11, hS13, hk, hn⟩
 refine m2 ?_
 refine s1 hA11 (op_lss rfl (hA11.ev rfl) (hA11.ev rfl)) fun a14 hA15 => ?_; clear hA11 a10
 refine n2 ?_
 by_cases hb16 : (k : Int) < (xs.length : Int)
 ·skip
  rw [decide_eq_true hb16] at hA15
  refine c_true hA15 rfl ?_
  refine c_skip ?_
  refine then_n ?_
  refine c_seq ?_
  refine c_block ?_
  refine m2 ?_
  refine s1 hA15 (op_move rfl (hA15.ev rfl)) fun a17 hA18 => ?_; clear hA15 a14
  refine s1 hA18 (op_assign rfl (hA18.ev rfl)) fun a19 hA20 => ?_; clear hA18 a17
  refine n4 ?_
  refine s1 hA20 (op_move rfl (hA20.ev rfl)) fun a21 hA22 => ?_; clear hA20 a19
  refine s1 hA22 (op_move rfl (hA22.ev rfl)) fun a23 hA24 => ?_; clear hA22 a21
  refine s1 hA24 (op_move rfl (hA24.ev rfl)) fun a25 hA26 => ?_; clear hA24 a23
  refine s1 hA26 (op_indexS rfl un_44 ty_3 (hA26.ev rfl) (i := k) (hA26.ev rfl) (hS13.sk 0 rfl) (by decide) (by omega)) fun a27 hA28 => ?_; clear hA26 a25
  refine s1 hA28 (op_load1E rfl ty_3 (hA28.ev rfl) (hS13.sk 0 rfl) (ints_at (by omega))) fun a29 hA30 => ?_; clear hA28 a27
  refine s1 hA30 (op_eql rfl (hA30.ev rfl) (hA30.ev rfl)) fun a31 hA32 => ?_; clear hA30 a29
  refine n1 ?_
  by_cases hb33 : x = (xs.getD k 0)
  ·skip
   rw [decide_eq_true hb33] at hA32
   refine c_true hA32 rfl ?_
   refine c_seq ?_
   have hA34 := hA32.as [(5, (Value.int .i64 (k : Int)))] rfl; clear hA32
   refine c_region ?_
   refine s1 hA34 (op_move rfl (hA34.ev rfl)) fun a35 hA36 => ?_; clear hA34 a31
   refine s1 hA36 (op_assign rfl (hA36.ev rfl)) fun a37 hA38 => ?_; clear hA36 a35
   refine n1 ?_
   refine c_ret ?_
   refine blk_ret ?_
   refine then_ret ?_
   refine then_ret ?_
   refine blk_ret ?_
   refine then_ret ?_
   refine fin_run hA38 (.inl rfl) (run_results1 hA38 rfl (.tmp rfl)) ?_
   exact ⟨by first | rw [fidx_hit (by omega) hn (decide_eq_true (by assumption))] | rw [fidx_miss (fun i hi => hn i (by omega))], hS13.ext⟩
  ·skip
   rw [decide_eq_false hb33] at hA32
   refine c_false hA32 rfl ?_
   refine c_skip ?_
   refine blk_n ?_
   refine then_n ?_
   have hA39 := hA32.as [(8, (Value.int .i64 (k : Int))), (7, (Value.int .i64 (xs.length : Int))), (0, v), (1, (Value.int .i64 x))] rfl; clear hA32
   refine c_region ?_
   refine s1 hA39 (op_add rfl (hA39.ev rfl) (evc _ _) (by omega) (by omega)) fun a40 hA41 => ?_; clear hA39 a31
   refine s1 hA41 (op_move rfl (hA41.ev rfl)) fun a42 hA43 => ?_; clear hA41 a40
   refine wl_nil ?_
   exact then_n ⟨k + 1, ⟨hA43.as _ rfl, hS13, by omega, (fun i hi => by rcases Nat.lt_succ_iff_lt_or_eq.1 hi with h | h; exact hn i h; subst h; exact decide_eq_false (by assumption))⟩, by omega⟩
 ·skip
  rw [decide_eq_false hb16] at hA15
  refine c_false hA15 rfl ?_
  refine c_exit ?_
  refine then_exit ?_
  refine then_exit ?_
  refine blk_hit ?_
  refine then_n ?_
  refine m2 ?_
  refine s1 hA15 (op_assign rfl (evc _ _)) fun a44 hA45 => ?_; clear hA15 a14
  refine n1 ?_
  refine c_ret ?_
  refine fin_run hA45 (.inl rfl) (run_results1 hA45 rfl (.tmp rfl)) ?_
  exact ⟨by first | rw [fidx_hit (by omega) hn (decide_eq_true (by assumption))] | rw [fidx_miss (fun i hi => hn i (by omega))], hS13.ext⟩
theorem contains_ok (xs : List Int) (x : Int) (v : Value) (w : World) (hv : SlAt w v 1 xs.length (ints xs)) (hlen : xs.length ≤ 1000000) :
  Calls Try.prog 122 #[v, (Value.int .i64 x)] w (Ret fun v w' => v = .bool (decide (x ∈ xs)) ∧ Ext NoB w w') := by
 refine calls_enter Try.func122 rfl fun a0 hA0 => ?_
 replace hA0 : Fr 9 [] [(0, v), (1, (Value.int .i64 x))] a0 := hA0
 have hS0 : Sep NoB w w [(sl v 1 xs.length (ints xs))] := sep_ro ⟨rfl, hv, trivial⟩
 refine m2 ?_
 refine s1 hA0 (op_assign rfl (evc _ _)) fun a1 hA2 => ?_; clear hA0 a0
 refine n4 ?_
 refine s1 hA2 (op_move rfl (hA2.ev rfl)) fun a3 hA4 => ?_; clear hA2 a1
 refine s1 hA4 (op_move rfl (hA4.ev rfl)) fun a5 hA6 => ?_; clear hA4 a3
 refine s2 hA6 (op_call rfl en_123 (ev2 (hA6.ev rfl) (hA6.ev rfl)) (index_ok xs x _ _ (hS0.sk 0 rfl) hlen)) ?_
 rintro a7 _ w9 ⟨rfl, hE10⟩ hA8; have hS11 := hS0.step hE10; clear hE10 hA6 hS0 a5
 refine s1 hA8 (op_geq rfl (hA8.ev rfl) (evc _ _)) fun a12 hA13 => ?_; clear hA8 a7
 refine s1 hA13 (op_assign rfl (hA13.ev rfl)) fun a14 hA15 => ?_; clear hA13 a12
 refine n1 ?_
 refine c_ret ?_
 refine fin_run hA15 (.inl rfl) (run_results1 hA15 rfl (.tmp rfl)) ?_
 exact ⟨congrArg Value.bool ((fidx_any (fun i => decide (x = xs.getD i 0)) xs.length).trans any_mem), hS11.ext⟩
theorem broken_ok (x : Int) (t : TabD) (vr vb : Value) (w : World) (hr : SlAt w vr 2 t.rows.length (pairs t.rows)) (hb : SlAt w vb 1 t.brk.length (ints t.brk)) (hrl : t.rows.length ≤ 1000000) (hbl : t.brk.length ≤ 1000000) :
  Calls Try.prog 54 #[(Value.agg #[(Value.int .i64 t.frm), (Value.int .i64 t.dst), vr, vb, (Value.int .i64 t.err)]), (Value.int .i64 x)] w (Ret fun v w' => v = .bool (decide (x ∈ t.brk)) ∧ Ext NoB w w') := by
 refine calls_enter Try.func54 rfl fun a0 hA0 => ?_
 replace hA0 : Fr 20 [] [(0, (Value.agg #[(Value.int .i64 t.frm), (Value.int .i64 t.dst), vr, vb, (Value.int .i64 t.err)])), (1, (Value.int .i64 x))] a0 := hA0
 have hS0 : Sep NoB w w [(sl vr 2 t.rows.length (pairs t.rows)), (sl vb 1 t.brk.length (ints t.brk))] := sep_ro ⟨rfl, hr, rfl, hb, trivial⟩
 refine m2 ?_
 refine s2 hA0 (op_box hS0 rfl (hA0.ev rfl) (cs := [(Value.int .i64 t.frm), (Value.int .i64 t.dst), vr, vb, (Value.int .i64 t.err)]) rfl) ?_
 rintro a1 _ w3 ⟨b4, rfl, hS5⟩ hA2; clear hA0 hS0 a0
 refine s1 hA2 (op_assign rfl (evc _ _)) fun a6 hA7 => ?_; clear hA2 a1
 refine n2 ?_
 refine m2 ?_
 refine s1 hA7 (op_assign rfl (evc _ _)) fun a8 hA9 => ?_; clear hA7 a6
 refine n1 ?_
 refine c_block ?_
 have hA10 := hA9.as [(5, (Value.int .i64 0)), (2, (bptr b4 0)), (1, (Value.int .i64 x))] rfl; clear hA9
 refine c_loop (G := Nat) (fun (k : Nat) a_ w_ => Fr 20 [] [(5, (Value.int .i64 (k : Int))), (2, (bptr b4 0)), (1, (Value.int .i64 x))] a_ ∧ Sep NoB w w_ [(blk b4 46 [(Value.int .i64 t.frm), (Value.int .i64 t.dst), vr, vb, (Value.int .i64 t.err)]), (sl vr 2 t.rows.length (pairs t.rows)), (sl vb 1 t.brk.length (ints t.brk))] ∧ (k ≤ t.brk.length) ∧ (∀ i, i < k → ¬ x = t.brk.getD i 0)) (fun k => t.brk.length - k) 0 ⟨hA10.as _ rfl, hS5, by omega, (fun _ h => absurd h (Nat.not_lt_zero _))⟩ ?_
 clear hA10 hS5 a8
 rintro k a11 w13 ⟨hA12, hS14, hkk, hq_⟩
 refine c_seq ?_
 refine m2 ?_
 refine s1 hA12 (op_move rfl (hA12.ev rfl)) fun a15 hA16 => ?_; clear hA12 a11
 refine s1 hA16 (op_field rfl fd_46_3 (hA16.ev rfl)) fun a17 hA18 => ?_; clear hA16 a15
 refine s1 hA18 (op_load1 rfl ty_44 (hA18.ev rfl) (hS14.bk 0 rfl) rfl) fun a19 hA20 => ?_; clear hA18 a17
 refine s1 hA20 (op_lenS rfl un_44 (hA20.ev rfl) (hS14.sk 2 rfl)) fun a21 hA22 => ?_; clear hA20 a19
 refine s1 hA22 (op_lss rfl (hA22.ev rfl) (hA22.ev rfl)) fun a23 hA24 => ?_; clear hA22 a21
 refine n1 ?_
 by_cases hb25 : (k : Int) < (t.brk.length : Int)
 ·skip
  rw [decide_eq_true hb25] at hA24
  refine c_true hA24 rfl ?_
  refine c_skip ?_
  refine then_n ?_
  refine c_seq ?_
  refine c_block ?_
  refine m2 ?_
  refine s1 hA24 (op_field rfl fd_46_3 (hA24.ev rfl)) fun a26 hA27 => ?_; clear hA24 a23
  refine s1 hA27 (op_load1 rfl ty_44 (hA27.ev rfl) (hS14.bk 0 rfl) rfl) fun a28 hA29 => ?_; clear hA27 a26
  refine s1 hA29 (op_move rfl (hA29.ev rfl)) fun a30 hA31 => ?_; clear hA29 a28
  refine s1 hA31 (op_indexS rfl un_44 ty_3 (hA31.ev rfl) (i := k) (hA31.ev rfl) (hS14.sk 2 rfl) (by decide) (by omega)) fun a32 hA33 => ?_; clear hA31 a30
  refine s1 hA33 (op_load1E rfl ty_3 (hA33.ev rfl) (hS14.sk 2 rfl) (ints_at (by omega))) fun a34 hA35 => ?_; clear hA33 a32
  refine s1 hA35 (op_move rfl (hA35.ev rfl)) fun a36 hA37 => ?_; clear hA35 a34
  refine s1 hA37 (op_eql rfl (hA37.ev rfl) (hA37.ev rfl)) fun a38 hA39 => ?_; clear hA37 a36
  refine n1 ?_
  by_cases hb40 : (t.brk.getD k 0) = x
  ·skip
   rw [decide_eq_true hb40] at hA39
   refine c_true hA39 rfl ?_
   refine c_seq ?_
   have hA41 := hA39.as [] rfl; clear hA39
   refine c_region ?_
   refine s1 hA41 (op_assign rfl (evc _ _)) fun a42 hA43 => ?_; clear hA41 a38
   refine n1 ?_
   refine c_ret ?_
   refine blk_ret ?_
   refine then_ret ?_
   refine then_ret ?_
   refine blk_ret ?_
   refine then_ret ?_
   refine fin_run hA43 (.inl rfl) (run_results1 hA43 rfl (.tmp rfl)) ?_
   exact ⟨congrArg Value.bool (Eq.symm (decide_eq_true (mem_at (i := k) (by omega) (Eq.symm (by assumption))))), hS14.ext⟩
  ·skip
   rw [decide_eq_false hb40] at hA39
   refine c_false hA39 rfl ?_
   refine c_skip ?_
   refine blk_n ?_
   refine then_n ?_
   have hA44 := hA39.as [(5, (Value.int .i64 (k : Int))), (2, (bptr b4 0)), (1, (Value.int .i64 x))] rfl; clear hA39
   refine c_region ?_
   refine s1 hA44 (op_move rfl (hA44.ev rfl)) fun a45 hA46 => ?_; clear hA44 a38
   refine s1 hA46 (op_add rfl (hA46.ev rfl) (evc _ _) (by omega) (by omega)) fun a47 hA48 => ?_; clear hA46 a45
   refine s1 hA48 (op_assign rfl (hA48.ev rfl)) fun a49 hA50 => ?_; clear hA48 a47
   refine wl_nil ?_
   exact then_n ⟨k + 1, ⟨hA50.as _ rfl, hS14, by omega, (fun i hi => by rcases Nat.lt_succ_iff_lt_or_eq.1 hi with h | h; exact hq_ i h; subst h; exact fun e_ => absurd e_.symm (by assumption))⟩, by omega⟩
 ·skip
  rw [decide_eq_false hb25] at hA24
  refine c_false hA24 rfl ?_
  refine c_exit ?_
  refine then_exit ?_
  refine then_exit ?_
  refine blk_hit ?_
  refine then_n ?_
  refine c_seq ?_
  have hA51 := hA24.as [] rfl; clear hA24
  refine c_region ?_
  refine s1 hA51 (op_assign rfl (evc _ _)) fun a52 hA53 => ?_; clear hA51 a23
  refine n1 ?_
  refine c_ret ?_
  refine fin_run hA53 (.inl rfl) (run_results1 hA53 rfl (.tmp rfl)) ?_
  exact ⟨congrArg Value.bool (Eq.symm (decide_eq_false (mem_not (fun i hi => hq_ i (by omega))))), hS14.ext⟩
end Go.Proofs.Ytohgladndklciaa

namespace Go.Proofs.Ytohgladndklciaa
open Go.RowKit Go.Shelf Go.Eng Go.Hard
theorem fd_37_0 : fldK Try.prog 37 0 = some 0 := by kernel_rfl
theorem en_48 : ∀ args w, (callFunc 48 args).run Try.prog w = .ok (.enter 48 args) w := enters_of Try.func48 (by kernel_rfl) rfl
theorem ty_37 : tyK Try.prog 37 = some (true, 3) := by kernel_rfl
theorem fd_103_0 : fldK Try.prog 103 0 = some 0 := by kernel_rfl
theorem en_93 : ∀ args w, (callFunc 93 args).run Try.prog w = .ok (.enter 93 args) w := enters_of Try.func93 (by kernel_rfl) rfl
theorem en_98 : ∀ args w, (callFunc 98 args).run Try.prog w = .ok (.enter 98 args) w := enters_of Try.func98 (by kernel_rfl) rfl
theorem en_97 : ∀ args w, (callFunc 97 args).run Try.prog w = .ok (.enter 97 args) w := enters_of Try.func97 (by kernel_rfl) rfl
theorem fd_106_2 : fldK Try.prog 106 2 = some 2 := by kernel_rfl
theorem ty_104 : tyK Try.prog 104 = some (false, 1) := by kernel_rfl
theorem scale_ok (n : Int) (sc : Int) (vt vm : Value) (w : World) (h1_ : vt.oneCell' = true) (h2_ : vm.oneCell' = true) (hsc : 1 ≤ sc ∧ sc ≤ 4) :
  Calls Try.prog 93 #[(Value.agg #[(Value.int .i64 sc), vt, vm]), (Value.int .i64 n)] w (Ret fun v w' => v = .bool (inB n 0 (sc - 1)) ∧ Ext NoB w w') := by
 refine calls_enter Try.func93 rfl fun a0 hA0 => ?_
 replace hA0 : Fr 10 [] [(0, (Value.agg #[(Value.int .i64 sc), vt, vm])), (1, (Value.int .i64 n))] a0 := hA0
 have hS0 : Sep NoB w w [] := Sep.start _ _
 refine m2 ?_
 refine s2 hA0 (op_box hS0 rfl (hA0.ev rfl) (cs := [(Value.int .i64 sc), vt, vm]) rfl) ?_
 rintro a1 _ w3 ⟨b4, rfl, hS5⟩ hA2; clear hA0 hS0 a0
 refine s1 hA2 (op_assign rfl (evc _ _)) fun a6 hA7 => ?_; clear hA2 a1
 refine n4 ?_
 refine s1 hA7 (op_move rfl (hA7.ev rfl)) fun a8 hA9 => ?_; clear hA7 a6
 refine s1 hA9 (op_field rfl fd_37_0 (hA9.ev rfl)) fun a10 hA11 => ?_; clear hA9 a8
 refine s1 hA11 (op_load1 rfl ty_3 (hA11.ev rfl) (hS5.bk 0 rfl) rfl) fun a12 hA13 => ?_; clear hA11 a10
 refine s1 hA13 (op_sub rfl (hA13.ev rfl) (evc _ _) (by omega) (by omega)) fun a14 hA15 => ?_; clear hA13 a12
 refine s2 hA15 (op_call rfl en_47 (ev3 (hA15.ev rfl) (evc _ _) (hA15.ev rfl)) (within_ok _ _ _ _)) ?_
 rintro a16 _ W_ ⟨rfl, hW_⟩ hA17; have hW2_ := hW_.symm; subst hW2_; clear hW_ hA15 a14
 refine s1 hA17 (op_assign rfl (hA17.ev rfl)) fun a19 hA20 => ?_; clear hA17 a16
 refine n1 ?_
 refine c_ret ?_
 refine fin_run hA20 (.inl rfl) (run_results1 hA20 rfl (.tmp rfl)) ?_
 exact ⟨rfl, hS5.ext⟩
theorem blk_ok (x1 x2 x3 : Int) (w : World) :
  Calls Try.prog 98 #[(Value.agg #[(Value.int .i64 x1), (Value.int .i64 x2), (Value.int .i64 x3)])] w (Ret fun v w' => v = .bool (blkB (x1, x2, x3)) ∧ Ext NoB w w') := by
 refine calls_enter Try.func98 rfl fun a0 hA0 => ?_
 replace hA0 : Fr 11 [] [(0, (Value.agg #[(Value.int .i64 x1), (Value.int .i64 x2), (Value.int .i64 x3)]))] a0 := hA0
 have hS0 : Sep NoB w w [] := Sep.start _ _
 refine m2 ?_
 refine s2 hA0 (op_box hS0 rfl (hA0.ev rfl) (cs := [(Value.int .i64 x1), (Value.int .i64 x2), (Value.int .i64 x3)]) rfl) ?_
 rintro a1 _ w3 ⟨b4, rfl, hS5⟩ hA2; clear hA0 hS0 a0
 refine s1 hA2 (op_assign rfl (evc _ _)) fun a6 hA7 => ?_; clear hA2 a1
 refine n4 ?_
 refine s1 hA7 (op_field rfl fd_100_0 (hA7.ev rfl)) fun a8 hA9 => ?_; clear hA7 a6
 refine s1 hA9 (op_loadA rfl ty_30 (hA9.ev rfl) (hS5.bk 0 rfl) (l := [(Value.int .i64 x1), (Value.int .i64 x2)]) rfl rfl) fun a10 hA11 => ?_; clear hA9 a8
 refine s2 hA11 (op_call rfl en_48 (ev1 (hA11.ev rfl)) (values_ok _ _ _)) ?_
 rintro a12 _ w14 ⟨rfl, hE15⟩ hA13; have hS16 := hS5.step hE15; clear hE15 hA11 hS5 a10
 refine s1 hA13 (op_move rfl (hA13.ev rfl)) fun a17 hA18 => ?_; clear hA13 a12
 rcases Bool.eq_false_or_eq_true ((spanB (x1, x2))) with hb19 | hb19
 ·skip
  rw [hb19] at hA18
  refine s5 hA18 (op_field rfl fd_100_1 (hA18.ev rfl)) fun a20 hA21 => ?_; clear hA18 a17
  refine s5 hA21 (op_load1 rfl ty_3 (hA21.ev rfl) (hS16.bk 0 rfl) rfl) fun a22 hA23 => ?_; clear hA21 a20
  refine s6 hA23 (op_call rfl en_70 (ev1 (hA23.ev rfl)) (value_ok _ _)) ?_
  rintro a24 _ w26 ⟨rfl, hE27⟩ hA25; have hS28 := hS16.step hE27; clear hE27 hA23 hS16 a22
  refine s1 hA25 (op_pick_t rfl (hA25.ev rfl) (hA25.ev rfl)) fun a29 hA30 => ?_; clear hA25 a24
  refine s1 hA30 (op_assign rfl (hA30.ev rfl)) fun a31 hA32 => ?_; clear hA30 a29
  refine n1 ?_
  refine c_ret ?_
  refine fin_run hA32 (.inl rfl) (run_results1 hA32 rfl (.tmp rfl)) ?_
  exact ⟨congrArg Value.bool (by unfold blkB; simp [*]), hS28.ext⟩
 ·skip
  rw [hb19] at hA18
  refine s3 hA18 fun a33 hA34 => ?_; clear hA18 a17
  refine s3 hA34 fun a35 hA36 => ?_; clear hA34 a33
  refine s3 hA36 fun a37 hA38 => ?_; clear hA36 a35
  refine s1 hA38 (op_pick_f rfl (hA38.ev rfl) (evc _ _)) fun a39 hA40 => ?_; clear hA38 a37
  refine s1 hA40 (op_assign rfl (hA40.ev rfl)) fun a41 hA42 => ?_; clear hA40 a39
  refine n1 ?_
  refine c_ret ?_
  refine fin_run hA42 (.inl rfl) (run_results1 hA42 rfl (.tmp rfl)) ?_
  exact ⟨congrArg Value.bool (by unfold blkB; simp [*]), hS16.ext⟩
theorem machine_ok (sc : Int) (vt vm : Value) (w : World) (h1_ : vt.oneCell' = true) (h2_ : vm.oneCell' = true) (hsc : 1 ≤ sc ∧ sc ≤ 4) (m : MacD) (vk : Value) (hk : SlAt w vk 3 m.blocks.length (trips m.blocks)) (hbl : m.blocks.length ≤ 1000000) :
  Calls Try.prog 66 #[(Value.agg #[(Value.int .i64 sc), vt, vm]), (Value.agg #[(Value.int .i64 m.scale), vk])] w (Ret fun v w' => v = .bool (macB sc m) ∧ Ext NoB w w') := by
 refine calls_enter Try.func66 rfl fun a0 hA0 => ?_
 replace hA0 : Fr 14 [] [(0, (Value.agg #[(Value.int .i64 sc), vt, vm])), (1, (Value.agg #[(Value.int .i64 m.scale), vk]))] a0 := hA0
 have hS0 : Sep NoB w w [(sl vk 3 m.blocks.length (trips m.blocks))] := sep_ro ⟨rfl, hk, trivial⟩
 refine m2 ?_
 refine s2 hA0 (op_box hS0 rfl (hA0.ev rfl) (cs := [(Value.int .i64 sc), vt, vm]) rfl) ?_
 rintro a1 _ w3 ⟨b4, rfl, hS5⟩ hA2; clear hA0 hS0 a0
 refine s2 hA2 (op_box hS5 rfl (hA2.ev rfl) (cs := [(Value.int .i64 m.scale), vk]) rfl) ?_
 rintro a6 _ w8 ⟨b9, rfl, hS10⟩ hA7; clear hA2 hS5 a1
 refine s1 hA7 (op_assign rfl (evc _ _)) fun a11 hA12 => ?_; clear hA7 a6
 refine n4 ?_
 refine s1 hA12 (op_loadA rfl ty_37 (hA12.ev rfl) (hS10.bk 1 rfl) (l := [(Value.int .i64 sc), vt, vm]) rfl rfl) fun a13 hA14 => ?_; clear hA12 a11
 refine s1 hA14 (op_field rfl fd_103_0 (hA14.ev rfl)) fun a15 hA16 => ?_; clear hA14 a13
 refine s1 hA16 (op_load1 rfl ty_3 (hA16.ev rfl) (hS10.bk 0 rfl) rfl) fun a17 hA18 => ?_; clear hA16 a15
 refine s2 hA18 (op_call rfl en_93 (ev2 (hA18.ev rfl) (hA18.ev rfl)) (scale_ok m.scale sc _ _ _ h1_ h2_ hsc)) ?_
 rintro a19 _ w21 ⟨rfl, hE22⟩ hA20; have hS23 := hS10.step hE22; clear hE22 hA18 hS10 a17
 refine s1 hA20 (op_move rfl (hA20.ev rfl)) fun a24 hA25 => ?_; clear hA20 a19
 rcases Bool.eq_false_or_eq_true ((inB m.scale 0 (sc - 1))) with hb26 | hb26
 ·skip
  rw [hb26] at hA25
  refine s5 hA25 (op_field rfl fd_103_1 (hA25.ev rfl)) fun a27 hA28 => ?_; clear hA25 a24
  refine s5 hA28 (op_load1 rfl ty_101 (hA28.ev rfl) (hS23.bk 0 rfl) rfl) fun a29 hA30 => ?_; clear hA28 a27
  refine s6 hA30 (op_call rfl en_97 (ev2 (hA30.ev rfl) (evf _ _)) (all_blk m.blocks _ 98 #[] #[] (fun i => blkB (m.blocks.getD i (0, 0, 0))) _ (hS23.sk 2 rfl) (by omega) ⟨en_98, fun i hi W hW => blk_ok _ _ _ W⟩)) ?_
  rintro a31 _ w33 ⟨rfl, hE34⟩ hA32; have hS35 := hS23.step hE34; clear hE34 hA30 hS23 a29
  refine s1 hA32 (op_pick_t rfl (hA32.ev rfl) (hA32.ev rfl)) fun a36 hA37 => ?_; clear hA32 a31
  refine s1 hA37 (op_assign rfl (hA37.ev rfl)) fun a38 hA39 => ?_; clear hA37 a36
  refine n1 ?_
  refine c_ret ?_
  refine fin_run hA39 (.inl rfl) (run_results1 hA39 rfl (.tmp rfl)) ?_
  exact ⟨congrArg Value.bool (by unfold macB allI; simp [*]), hS35.ext⟩
 ·skip
  rw [hb26] at hA25
  refine s3 hA25 fun a40 hA41 => ?_; clear hA25 a24
  refine s3 hA41 fun a42 hA43 => ?_; clear hA41 a40
  refine s3 hA43 fun a44 hA45 => ?_; clear hA43 a42
  refine s1 hA45 (op_pick_f rfl (hA45.ev rfl) (evc _ _)) fun a46 hA47 => ?_; clear hA45 a44
  refine s1 hA47 (op_assign rfl (hA47.ev rfl)) fun a48 hA49 => ?_; clear hA47 a46
  refine n1 ?_
  refine c_ret ?_
  refine fin_run hA49 (.inl rfl) (run_results1 hA49 rfl (.tmp rfl)) ?_
  exact ⟨congrArg Value.bool (by unfold macB allI; simp [*]), hS23.ext⟩
theorem mshort_ok (m : MacD) (vk : Value) (w : World) (hk : SlAt w vk 3 m.blocks.length (trips m.blocks)) :
  Calls Try.prog 64 #[(Value.agg #[(Value.int .i64 m.scale), vk])] w (Ret fun v w' => v = .bool (decide ((m.blocks.length : Int) ≤ 5)) ∧ Ext NoB w w') := by
 refine calls_enter Try.func64 rfl fun a0 hA0 => ?_
 replace hA0 : Fr 7 [] [(0, (Value.agg #[(Value.int .i64 m.scale), vk]))] a0 := hA0
 have hS0 : Sep NoB w w [(sl vk 3 m.blocks.length (trips m.blocks))] := sep_ro ⟨rfl, hk, trivial⟩
 refine m2 ?_
 refine s2 hA0 (op_box hS0 rfl (hA0.ev rfl) (cs := [(Value.int .i64 m.scale), vk]) rfl) ?_
 rintro a1 _ w3 ⟨b4, rfl, hS5⟩ hA2; clear hA0 hS0 a0
 refine s1 hA2 (op_assign rfl (evc _ _)) fun a6 hA7 => ?_; clear hA2 a1
 refine n4 ?_
 refine s1 hA7 (op_field rfl fd_103_1 (hA7.ev rfl)) fun a8 hA9 => ?_; clear hA7 a6
 refine s1 hA9 (op_load1 rfl ty_101 (hA9.ev rfl) (hS5.bk 0 rfl) rfl) fun a10 hA11 => ?_; clear hA9 a8
 refine s1 hA11 (op_lenS rfl un_101 (hA11.ev rfl) (hS5.sk 1 rfl)) fun a12 hA13 => ?_; clear hA11 a10
 refine s1 hA13 (op_leq rfl (hA13.ev rfl) (evc _ _)) fun a14 hA15 => ?_; clear hA13 a12
 refine s1 hA15 (op_assign rfl (hA15.ev rfl)) fun a16 hA17 => ?_; clear hA15 a14
 refine n1 ?_
 refine c_ret ?_
 refine fin_run hA17 (.inl rfl) (run_results1 hA17 rfl (.tmp rfl)) ?_
 exact ⟨rfl, hS5.ext⟩
theorem tshort_ok (t : TabD) (vr vb : Value) (w : World) (hr : SlAt w vr 2 t.rows.length (pairs t.rows)) (hb : SlAt w vb 1 t.brk.length (ints t.brk)) (hrl : t.rows.length ≤ 1000000) (hbl : t.brk.length ≤ 1000000) :
  Calls Try.prog 62 #[(Value.agg #[(Value.int .i64 t.frm), (Value.int .i64 t.dst), vr, vb, (Value.int .i64 t.err)])] w (Ret fun v w' => v = .bool (decide ((t.rows.length : Int) ≤ 8)) ∧ Ext NoB w w') := by
 refine calls_enter Try.func62 rfl fun a0 hA0 => ?_
 replace hA0 : Fr 7 [] [(0, (Value.agg #[(Value.int .i64 t.frm), (Value.int .i64 t.dst), vr, vb, (Value.int .i64 t.err)]))] a0 := hA0
 have hS0 : Sep NoB w w [(sl vr 2 t.rows.length (pairs t.rows)), (sl vb 1 t.brk.length (ints t.brk))] := sep_ro ⟨rfl, hr, rfl, hb, trivial⟩
 refine m2 ?_
 refine s2 hA0 (op_box hS0 rfl (hA0.ev rfl) (cs := [(Value.int .i64 t.frm), (Value.int .i64 t.dst), vr, vb, (Value.int .i64 t.err)]) rfl) ?_
 rintro a1 _ w3 ⟨b4, rfl, hS5⟩ hA2; clear hA0 hS0 a0
 refine s1 hA2 (op_assign rfl (evc _ _)) fun a6 hA7 => ?_; clear hA2 a1
 refine n4 ?_
 refine s1 hA7 (op_field rfl fd_106_2 (hA7.ev rfl)) fun a8 hA9 => ?_; clear hA7 a6
 refine s1 hA9 (op_load1 rfl ty_104 (hA9.ev rfl) (hS5.bk 0 rfl) rfl) fun a10 hA11 => ?_; clear hA9 a8
 refine s1 hA11 (op_lenS rfl un_104 (hA11.ev rfl) (hS5.sk 1 rfl)) fun a12 hA13 => ?_; clear hA11 a10
 refine s1 hA13 (op_leq rfl (hA13.ev rfl) (evc _ _)) fun a14 hA15 => ?_; clear hA13 a12
 refine s1 hA15 (op_assign rfl (hA15.ev rfl)) fun a16 hA17 => ?_; clear hA15 a14
 refine n1 ?_
 refine c_ret ?_
 refine fin_run hA17 (.inl rfl) (run_results1 hA17 rfl (.tmp rfl)) ?_
 exact ⟨rfl, hS5.ext⟩
end Go.Proofs.Ytohgladndklciaa
