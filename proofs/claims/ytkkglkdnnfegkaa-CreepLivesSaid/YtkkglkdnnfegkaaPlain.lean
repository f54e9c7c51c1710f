/-
  Materials and runs as data; how they lie in memory; what the program's functions compute of them.
  What the exported functions compute.
  What is computed of plans and lives.
  What the reference computes, and that it is the same.
  Runs that are built; lists of the reference.
  The reference's lists of rates.
  The reference's allowed rates.
  The chapter's material and runs; what the program makes of them.
  The ranges of rates: as the program makes them, and as the statement does.
-/
import Derived.Test.YtkkglkdnnfegkaaEng2
import Derived.Test.YtkkglkdnnfegkaaEng
set_option linter.unusedSimpArgs false
set_option linter.unusedVariables false
namespace Go.Proofs.Ytkkglkdnnfegkaa
open Go.RowKit Go.Eng

abbrev Seg := Int × Int × Int
structure RunD where
 segs : List Seg
 lo : Int
 hi : Int
def run0 : RunD := ⟨[], 0, 0⟩
/-- The runs' structs: the slices of their segments are lv. -/
def runV (lv : List Value) (rs : List RunD) : List (Value × Int × Int) := (lv.zip rs).map fun p => (p.1, p.2.lo, p.2.hi)
def SegsAt (w : World) (lv : List Value) (rs : List RunD) : Prop :=
 ∀ i, i < rs.length → SlAt w (lv.getD i nilS) 3 (rs.getD i run0).segs.length (trips (rs.getD i run0).segs)
/-- The segments of all runs. -/
def segsR (o : Bool) (lv : List Value) (rs : List RunD) : Res where
 S := fun b => ∃ i, i < rs.length ∧ slFoot (lv.getD i nilS) (trips (rs.getD i run0).segs) b
 p := fun w => lv.length = rs.length ∧ SegsAt w lv rs
 own := o
 stable := fun w w' h k => ⟨h.1, fun i hi => (sl (lv.getD i nilS) 3 (rs.getD i run0).segs.length (trips (rs.getD i run0).segs)).stable w w' (h.2 i hi) (fun b hb => k b ⟨i, hi, hb⟩)⟩
 lt := fun w b h ⟨i, hi, hb⟩ => (sl (lv.getD i nilS) 3 (rs.getD i run0).segs.length (trips (rs.getD i run0).segs)).lt w b (h.2 i hi) hb
structure RunsAt (w : World) (v : Value) (lv : List Value) (rs : List RunD) : Prop where
 runs : SlAt w v 3 rs.length (vtrips (runV lv rs))
 len : lv.length = rs.length
 segs : SegsAt w lv rs
/-- Runs, as one thing in memory. -/
def runsR (o : Bool) (v : Value) (lv : List Value) (rs : List RunD) : Res where
 S := fun b => slFoot v (vtrips (runV lv rs)) b ∨ (segsR o lv rs).S b
 p := fun w => RunsAt w v lv rs
 own := o
 stable := fun w w' h k => ⟨(sl v 3 rs.length (vtrips (runV lv rs))).stable w w' h.runs (fun b hb => k b (.inl hb)), h.len, ((segsR o lv rs).stable w w' ⟨h.len, h.segs⟩ (fun b hb => k b (.inr hb))).2⟩
 lt := fun w b h hb => by
  rcases hb with hb | hb
  ·exact (sl v 3 rs.length (vtrips (runV lv rs))).lt w b h.runs hb
  ·exact (segsR o lv rs).lt w b ⟨h.len, h.segs⟩ hb
theorem runs_at {w : World} {o : Bool} {v : Value} {lv : List Value} {rs : List RunD} (h : (runsR o v lv rs).p w) : RunsAt w v lv rs := h
theorem RunsAt.step {w w' : World} {v : Value} {lv : List Value} {rs : List RunD} (h : RunsAt w v lv rs) (k : Ext NoB w w') : RunsAt w' v lv rs := res_step (r := runsR false v lv rs) h k
theorem runV_getD {lv : List Value} {rs : List RunD} {i : Nat} (hl : lv.length = rs.length) (h : i < rs.length) : (runV lv rs).getD i (nilS, 0, 0) = (lv.getD i nilS, (rs.getD i run0).lo, (rs.getD i run0).hi) := by
 have h2 : i < lv.length := by omega
 have : (lv.zip rs)[i]? = some (lv[i], rs[i]) := List.getElem?_zip_eq_some.2 ⟨List.getElem?_eq_getElem h2, List.getElem?_eq_getElem h⟩
 simp only [runV, List.getD, List.getElem?_map, this, List.getElem?_eq_getElem h, List.getElem?_eq_getElem h2, Option.map_some, Option.getD_some]
theorem runV_len {lv : List Value} {rs : List RunD} (hl : lv.length = rs.length) : (runV lv rs).length = rs.length := by simp [runV, hl]
theorem runV_snoc {lv : List Value} {rs : List RunD} (hl : lv.length = rs.length) (v : Value) (r : RunD) : runV (lv ++ [v]) (rs ++ [r]) = runV lv rs ++ [(v, r.lo, r.hi)] := by
 unfold runV; rw [List.zip_append hl, List.map_append]; rfl
section
variable {lv : List Value} {rs : List RunD} {i : Nat} (hl : lv.length = rs.length) (h : i < rs.length)
include hl h
theorem runs_at0 : (vtrips (runV lv rs))[i * 3]? = some (lv.getD i nilS) := by
 have := vtrips_at0 (xs := runV lv rs) (i := i) (by rw [runV_len hl]; exact h)
 rwa [runV_getD hl h] at this
theorem runs_at1 : (vtrips (runV lv rs))[i * 3 + 1]? = some (.int .i64 (rs.getD i run0).lo) := by
 have := vtrips_at1 (xs := runV lv rs) (i := i) (by rw [runV_len hl]; exact h)
 rwa [runV_getD hl h] at this
theorem runs_at2 : (vtrips (runV lv rs))[i * 3 + 2]? = some (.int .i64 (rs.getD i run0).hi) := by
 have := vtrips_at2 (xs := runV lv rs) (i := i) (by rw [runV_len hl]; exact h)
 rwa [runV_getD hl h] at this
theorem runs_all : ((vtrips (runV lv rs)).drop (i * 3)).take 3 = [lv.getD i nilS, .int .i64 (rs.getD i run0).lo, .int .i64 (rs.getD i run0).hi] := by
 have := vtrips_all (xs := runV lv rs) (i := i) (by rw [runV_len hl]; exact h)
 rwa [runV_getD hl h] at this
end
theorem ret_int {k : IntKind} {a b : Int} (h : a = b) : Value.int k a = Value.int k b := by rw [h]
theorem ints_at' {l : List Int} {i : Nat} (h : i < l.length) : (ints l)[0 + i * 1]? = some (.int .i64 (l.getD i 0)) := by rw [Nat.zero_add]; exact ints_at h

/-! ### What is computed -/
def uptoB (p : Int × Int) (most : Int) : Bool := decide (0 ≤ p.1) && decide (p.1 ≤ p.2) && decide (p.2 ≤ most)
def rateB (p : Int × Int) : Bool := uptoB p 1000 && decide (p.2 - p.1 ≤ 20)
def segB (n : Nat) (s : Seg) : Bool := (decide (0 ≤ s.1) && decide (s.1 ≤ (n : Int) - 1)) && uptoB s.2 1000000
def runB (n : Nat) (r : RunD) : Bool := uptoB (r.lo, r.hi) 10000000000 && (List.range r.segs.length).all fun i => segB n (r.segs.getD i (0, 0, 0))
def hoursF (rate st : Int) : Int := if st = 0 then 0 else if rate = 0 then -1 else (st + rate - 1).tdiv rate
def sumUpto (l : List Int) : Nat → Int
 | 0 => 0
 | k + 1 => sumUpto l k + l.getD k 0
def sumF (l : List Int) : Int := sumUpto l l.length
/-- The products of rates and hours, of the first k segments. -/
def prodUpto (segs : List Seg) (r : List Int) (f : Int × Int → Int) (k : Nat) : List Int := (List.range k).map fun i => r.getD (segs.getD i (0, 0, 0)).1.toNat 0 * f (segs.getD i (0, 0, 0)).2
def atF (segs : List Seg) (r : List Int) (f : Int × Int → Int) : Int := sumF (prodUpto segs r f segs.length)
def stLo (segs : List Seg) (r : List Int) : Int := atF segs r Prod.fst
def stHi (segs : List Seg) (r : List Int) : Int := atF segs r Prod.snd
def allowsB (x : RunD) (r : List Int) : Bool := decide (stLo x.segs r ≤ x.hi) && decide (x.lo ≤ stHi x.segs r)
def allowB (rs : List RunD) (r : List Int) : Bool := (List.range rs.length).all fun i => allowsB (rs.getD i run0) r
theorem map_range_succ {α : Type} (f : Nat → α) (n : Nat) : (List.range (n + 1)).map f = (List.range n).map f ++ [f n] := by rw [List.range_succ, List.map_append]; rfl
theorem prodUpto_succ (segs : List Seg) (r : List Int) (f : Int × Int → Int) (k : Nat) : prodUpto segs r f (k + 1) = prodUpto segs r f k ++ [r.getD (segs.getD k (0, 0, 0)).1.toNat 0 * f (segs.getD k (0, 0, 0)).2] := map_range_succ _ _
theorem prodUpto_len (segs : List Seg) (r : List Int) (f : Int × Int → Int) (k : Nat) : (prodUpto segs r f k).length = k := by simp [prodUpto]
theorem prodUpto_at {segs : List Seg} {r : List Int} {f : Int × Int → Int} {k i : Nat} (h : i < k) : (prodUpto segs r f k).getD i 0 = r.getD (segs.getD i (0, 0, 0)).1.toNat 0 * f (segs.getD i (0, 0, 0)).2 := by simp [prodUpto, List.getD, h]
theorem sumUpto_bd {l : List Int} {B : Int} (h : ∀ i, i < l.length → 0 ≤ l.getD i 0 ∧ l.getD i 0 ≤ B) : ∀ k, k ≤ l.length → 0 ≤ sumUpto l k ∧ sumUpto l k ≤ B * k
 | 0, _ => by simp [sumUpto]
 | k + 1, hk => by
  have ih := sumUpto_bd h k (by omega)
  have h1 := h k (by omega)
  have e : B * ((k + 1 : Nat) : Int) = B * (k : Int) + B := by rw [Int.natCast_add, Int.mul_add]; simp
  simp only [sumUpto]; rw [e]; omega
/-- Rates, as bounds; a segment, as bounds. -/
def RatesV (r : List Int) : Prop := r.length = 3 ∧ ∀ i, 0 ≤ r.getD i 0 ∧ r.getD i 0 ≤ 1000
structure SegV (n : Nat) (s : Seg) : Prop where
 b : 0 ≤ s.1 ∧ s.1 ≤ (n : Int) - 1
 h : 0 ≤ s.2.1 ∧ s.2.1 ≤ s.2.2 ∧ s.2.2 ≤ 1000000
structure RunV (n : Nat) (r : RunD) : Prop where
 seen : 0 ≤ r.lo ∧ r.lo ≤ r.hi ∧ r.hi ≤ 10000000000
 len : r.segs.length ≤ 8
 segs : ∀ i, i < r.segs.length → SegV n (r.segs.getD i (0, 0, 0))
theorem mul_bd {a b : Int} (ha : 0 ≤ a ∧ a ≤ 1000) (hb : 0 ≤ b ∧ b ≤ 1000000) : 0 ≤ a * b ∧ a * b ≤ 1000000000 := by
 constructor
 ·exact Int.mul_nonneg ha.1 hb.1
 ·calc a * b ≤ 1000 * b := Int.mul_le_mul_of_nonneg_right ha.2 hb.1
   _ ≤ 1000 * 1000000 := Int.mul_le_mul_of_nonneg_left hb.2 (by decide)
   _ = 1000000000 := by decide

/-! ### All rates of a material -/
def lowF (R : List (Int × Int)) (arr : List Int) (band : Nat) : Int := if 0 < band then max (R.getD band (0, 0)).1 (arr.getD (band - 1) 0) else (R.getD band (0, 0)).1
def cntF (R : List (Int × Int)) (arr : List Int) (band : Nat) : Nat := ((R.getD band (0, 0)).2 - lowF R arr band + 1).toNat
def fromF (R : List (Int × Int)) : Nat → List Int → Nat → List (List Int)
 | 0, arr, _ => [arr]
 | m + 1, arr, band => (List.range (cntF R arr band)).flatMap fun (t : Nat) => fromF R m (arr.set band (lowF R arr band + (t : Int))) (band + 1)
def fromUpto (R : List (Int × Int)) (m : Nat) (arr : List Int) (band t : Nat) : List (List Int) := (List.range t).flatMap fun (t : Nat) => fromF R m (arr.set band (lowF R arr band + (t : Int))) (band + 1)
def listsF (R : List (Int × Int)) : List (List Int) := fromF R R.length [0, 0, 0] 0
theorem fromUpto_succ (R : List (Int × Int)) (m : Nat) (arr : List Int) (band t : Nat) : fromUpto R m arr band (t + 1) = fromUpto R m arr band t ++ fromF R m (arr.set band (lowF R arr band + (t : Int))) (band + 1) := by
 unfold fromUpto; rw [List.range_succ, List.flatMap_append]; simp
theorem fromUpto_pre (R : List (Int × Int)) (m : Nat) (arr : List Int) (band t : Nat) : ∀ n, ∃ rest, fromUpto R m arr band (t + n) = fromUpto R m arr band t ++ rest
 | 0 => ⟨[], by simp⟩
 | n + 1 => by
  obtain ⟨rest, h⟩ := fromUpto_pre R m arr band t n
  exact ⟨_, by rw [← Nat.add_assoc, fromUpto_succ, h, List.append_assoc]⟩
theorem fromF_split {R : List (Int × Int)} {m : Nat} {arr : List Int} {band t : Nat} (h : t < cntF R arr band) : ∃ rest, fromF R (m + 1) arr band = fromUpto R m arr band t ++ (fromF R m (arr.set band (lowF R arr band + (t : Int))) (band + 1) ++ rest) := by
 obtain ⟨rest, hr⟩ := fromUpto_pre R m arr band (t + 1) (cntF R arr band - (t + 1))
 refine ⟨rest, ?_⟩
 rw [← List.append_assoc, ← fromUpto_succ, ← hr, show t + 1 + (cntF R arr band - (t + 1)) = cntF R arr band by omega]; rfl
/-- What the array of the rates holds when round t begins. -/
def curA (R : List (Int × Int)) (arr : List Int) (band : Nat) : Nat → List Int
 | 0 => arr
 | t + 1 => arr.set band (lowF R arr band + (t : Int))
theorem curA_len (R : List (Int × Int)) (arr : List Int) (band t : Nat) : (curA R arr band t).length = arr.length := by cases t <;> simp [curA]
theorem curA_set (R : List (Int × Int)) (arr : List Int) (band t : Nat) : (curA R arr band t).set band (lowF R arr band + (t : Int)) = curA R arr band (t + 1) := by cases t <;> simp [curA, List.set_set]
theorem ls_at {pre post : List (List Int)} {a : List Int} : (pre ++ [a] ++ post).getD pre.length [] = a := by simp [List.getD]
theorem ls_lt {pre post : List (List Int)} {a : List Int} : pre.length < (pre ++ [a] ++ post).length := by simp
theorem toNat_pred (k : Nat) : ((k : Int) - 1).toNat = k - 1 := by omega
theorem ratesV_set {r : List Int} {b : Nat} {n : Int} (h : RatesV r) (hn : 0 ≤ n ∧ n ≤ 1000) : RatesV (r.set b n) := by
 refine ⟨by rw [List.length_set]; exact h.1, fun i => ?_⟩
 have hi := h.2 i
 by_cases e : i = b
 ·subst e
  by_cases hb : i < r.length
  ·simp [List.getD, hb]; exact hn
  ·simp [List.getD, hb]
 ·simp only [List.getD, List.getElem?_set] at hi ⊢
  rw [if_neg (fun h => e h.symm)]; exact hi
/-- The rates of a material are right. -/
def MatV (R : List (Int × Int)) : Prop := R.length ≤ 3 ∧ ∀ i, 0 ≤ (R.getD i (0, 0)).1 ∧ (R.getD i (0, 0)).1 ≤ (R.getD i (0, 0)).2 ∧ (R.getD i (0, 0)).2 ≤ 1000
theorem lowF_bd {R : List (Int × Int)} {arr : List Int} (hR : MatV R) (ha : RatesV arr) (band : Nat) : 0 ≤ lowF R arr band ∧ lowF R arr band ≤ 1000 := by
 have h1 := hR.2 band
 have h2 := ha.2 (band - 1)
 unfold lowF; split <;> omega
theorem lowF_pos {R : List (Int × Int)} {arr : List Int} {band : Nat} (h : 0 < (band : Int)) : lowF R arr band = max (R.getD band (0, 0)).1 (arr.getD ((band : Int) - 1).toNat 0) := by
 rw [toNat_pred]; unfold lowF; rw [if_pos (by omega)]
theorem lowF_zero {R : List (Int × Int)} {arr : List Int} {band : Nat} (h : ¬ 0 < (band : Int)) : lowF R arr band = (R.getD band (0, 0)).1 := by
 unfold lowF; rw [if_neg (by omega)]
theorem cnt_lt {R : List (Int × Int)} {arr : List Int} {band t : Nat} (h : lowF R arr band + (t : Int) ≤ (R.getD band (0, 0)).2) : t < cntF R arr band := by unfold cntF; omega
theorem cnt_eq {R : List (Int × Int)} {arr : List Int} {band t : Nat} (h : ¬ lowF R arr band + (t : Int) ≤ (R.getD band (0, 0)).2) (h2 : t ≤ cntF R arr band) : t = cntF R arr band := by unfold cntF at *; omega
theorem fromF_end (R : List (Int × Int)) (m : Nat) (arr : List Int) (band : Nat) : fromF R (m + 1) arr band = fromUpto R m arr band (cntF R arr band) := rfl
/-! ### Materials -/
def allRateB (R : List (Int × Int)) : Bool := (List.range R.length).all fun i => rateB (R.getD i (0, 0))
def checkF (R : List (Int × Int)) : Int := if (1 ≤ R.length ∧ R.length ≤ 3) ∧ allRateB R = true then (if (listsF R).length = 0 then 1 else 0) else 1
theorem matV_of {R : List (Int × Int)} (h : R.length ≤ 3) (ha : allRateB R = true) : MatV R := by
 refine ⟨h, fun i => ?_⟩
 by_cases hi : i < R.length
 ·have := List.all_eq_true.1 ha i (List.mem_range.2 hi)
  simp only [rateB, uptoB, Bool.and_eq_true, decide_eq_true_eq] at this
  omega
 ·have : R.getD i (0, 0) = (0, 0) := by simp [List.getD, List.getElem?_eq_none (Nat.le_of_not_lt hi)]
  rw [this]; decide
theorem fromF_rates {R : List (Int × Int)} (hR : MatV R) : ∀ (m : Nat) (arr : List Int) (band : Nat), RatesV arr → ∀ l ∈ fromF R m arr band, RatesV l
 | 0, arr, band, ha, l, hl => by
  simp only [fromF, List.mem_singleton] at hl; subst hl; exact ha
 | m + 1, arr, band, ha, l, hl => by
  simp only [fromF, List.mem_flatMap, List.mem_range] at hl
  obtain ⟨t, ht, hl⟩ := hl
  have h1 := lowF_bd hR ha band
  have h2 := hR.2 band
  exact fromF_rates hR m _ _ (ratesV_set ha (by unfold cntF at ht; omega)) l hl
theorem zero_rates : RatesV [0, 0, 0] := by
 refine ⟨rfl, fun i => ?_⟩
 match i with
 | 0 => decide
 | 1 => decide
 | 2 => decide
 | i + 3 => simp
theorem lists_rates {R : List (Int × Int)} (hR : MatV R) {k : Nat} (h : k < (listsF R).length) : RatesV ((listsF R).getD k []) := by
 refine fromF_rates hR R.length [0, 0, 0] 0 zero_rates _ ?_
 simp only [List.getD, List.getElem?_eq_getElem h, Option.getD_some]
 exact List.getElem_mem h
theorem lists_len3 {R : List (Int × Int)} (hR : MatV R) {k : Nat} (h : k < (listsF R).length) : 3 = (ints ((listsF R).getD k [])).length := by
 rw [ints, List.length_map, (lists_rates hR h).1]

/-! ### What is known of rates -/
def KA (rs : List RunD) (k v : Value) : Prop := ∃ l : List Int, l.length = 3 ∧ k = .agg (ints l).toArray ∧ v = .bool (allowB rs l)
theorem KA_keys (rs : List RunD) : ∀ k' v, KA rs k' v → ∃ ys : List Int, ys.length = 3 ∧ k' = .agg (ints ys).toArray := fun _ _ ⟨bs, h1, h2, _⟩ => ⟨bs, h1, h2⟩
theorem KA_val {rs : List RunD} {l : List Int} {u : Value} (h : KA rs (.agg (ints l).toArray) u) : u = .bool (allowB rs l) := by
 obtain ⟨bs, _, h2, h3⟩ := h
 rw [h3, ints_inj h2]
theorem allow_all {rs : List RunD} {r : List Int} (h : ∀ i, i < rs.length → allowsB (rs.getD i run0) r = true) : allowB rs r = true := List.all_eq_true.2 fun i hi => h i (List.mem_range.1 hi)
theorem allow_no {rs : List RunD} {r : List Int} {k : Nat} (hk : k < rs.length) (h : allowsB (rs.getD k run0) r = false) : allowB rs r = false := by
 rw [allowB, List.all_eq_false]
 exact ⟨k, List.mem_range.2 hk, by rw [h]; decide⟩
/-- Runs that are right for n bands. -/
structure RunsV (n : Nat) (rs : List RunD) : Prop where
 len : rs.length ≤ 6
 runs : ∀ i, i < rs.length → RunV n (rs.getD i run0)

/-! ### What a filter has handed over -/
def fUpto {α : Type} (p : α → Bool) (l : List α) (k : Nat) : List α := (l.take k).filter p
theorem fUpto_zero {α : Type} (p : α → Bool) (l : List α) : fUpto p l 0 = [] := rfl
theorem fUpto_all {α : Type} (p : α → Bool) (l : List α) : fUpto p l l.length = l.filter p := by rw [fUpto, List.take_length]
theorem fUpto_succ {α : Type} (p : α → Bool) (l : List α) {k : Nat} (h : k < l.length) (d : α) : fUpto p l (k + 1) = fUpto p l k ++ (if p (l.getD k d) = true then [l.getD k d] else []) := by
 unfold fUpto
 rw [List.take_add_one, List.filter_append, List.getElem?_eq_getElem h]
 have : l.getD k d = l[k] := by simp [List.getD, h]
 rw [this]
 simp [List.filter_cons]
theorem fUpto_pre {α : Type} (p : α → Bool) (l : List α) (k : Nat) : l.filter p = fUpto p l k ++ (l.drop k).filter p := by
 rw [fUpto, ← List.filter_append, List.take_append_drop]
theorem fUpto_yes {α : Type} {p : α → Bool} {l : List α} {k : Nat} (h : k < l.length) (d : α) (hp : p (l.getD k d) = true) : (fUpto p l k).length < (l.filter p).length ∧ (l.filter p).getD (fUpto p l k).length d = l.getD k d ∧ (fUpto p l (k + 1)).length = (fUpto p l k).length + 1 := by
 have e : l.filter p = (fUpto p l k ++ [l.getD k d]) ++ (l.drop (k + 1)).filter p := by
  rw [fUpto_pre p l (k + 1), fUpto_succ p l h d, if_pos hp]
 refine ⟨by rw [e]; simp, by rw [e]; simp [List.getD], by rw [fUpto_succ p l h d, if_pos hp]; simp⟩
theorem fUpto_no {α : Type} {p : α → Bool} {l : List α} {k : Nat} (h : k < l.length) (d : α) (hp : p (l.getD k d) = false) : fUpto p l (k + 1) = fUpto p l k := by
 rw [fUpto_succ p l h d, if_neg (by rw [hp]; decide), List.append_nil]
def allowedF (R : List (Int × Int)) (rs : List RunD) : List (List Int) := (listsF R).filter (allowB rs)
theorem allowed_rates {R : List (Int × Int)} {rs : List RunD} (hR : MatV R) {k : Nat} (h : k < (allowedF R rs).length) : RatesV ((allowedF R rs).getD k []) ∧ allowB rs ((allowedF R rs).getD k []) = true := by
 have hm : (allowedF R rs).getD k [] ∈ allowedF R rs := by
  simp only [List.getD, List.getElem?_eq_getElem h, Option.getD_some]; exact List.getElem_mem h
 obtain ⟨h1, h2⟩ := List.mem_filter.1 hm
 exact ⟨fromF_rates hR R.length [0, 0, 0] 0 zero_rates _ h1, h2⟩
theorem allowed_len3 {R : List (Int × Int)} {rs : List RunD} (hR : MatV R) {k : Nat} (h : k < (allowedF R rs).length) : 3 = (ints ((allowedF R rs).getD k [])).length := by
 rw [ints, List.length_map, (allowed_rates hR h).1.1]
/-! ### A room -/
def shortB (rs : List RunD) : Bool := (List.range rs.length).all fun i => decide (((rs.getD i run0).segs.length : Int) ≤ 8)
def allRunB (R : List (Int × Int)) (rs : List RunD) : Bool := (List.range rs.length).all fun i => runB R.length (rs.getD i run0)
def enterF (R : List (Int × Int)) (rs : List RunD) : Int :=
 if checkF R ≠ 0 then checkF R else if ¬ (rs.length ≤ 6 ∧ shortB rs = true) then 3 else if ¬ allRunB R rs = true then 1 else 0
theorem short_at {rs : List RunD} (h : shortB rs = true) {i : Nat} (hi : i < rs.length) : (rs.getD i run0).segs.length ≤ 8 := by
 have := of_decide_eq_true (List.all_eq_true.1 h i (List.mem_range.2 hi))
 omega
theorem enter_mat {R : List (Int × Int)} {rs : List RunD} (h : enterF R rs = 0) : checkF R = 0 := by
 unfold enterF at h
 by_cases hc : checkF R = 0
 ·exact hc
 ·rw [if_pos hc] at h; exact absurd h hc
theorem check_mat {R : List (Int × Int)} (h : checkF R = 0) : MatV R ∧ 1 ≤ R.length ∧ 0 < (listsF R).length := by
 unfold checkF at h
 by_cases h1 : (1 ≤ R.length ∧ R.length ≤ 3) ∧ allRateB R = true
 ·rw [if_pos h1] at h
  by_cases h2 : (listsF R).length = 0
  ·rw [if_pos h2] at h; exact absurd h (by decide)
  ·exact ⟨matV_of h1.1.2 h1.2, h1.1.1, by omega⟩
 ·rw [if_neg h1] at h; exact absurd h (by decide)
theorem segV_of {n : Nat} {s : Seg} (h : segB n s = true) : SegV n s := by
 simp only [segB, uptoB, Bool.and_eq_true, decide_eq_true_eq] at h
 exact ⟨by omega, by omega⟩
theorem runV_of {n : Nat} {x : RunD} (h : runB n x = true) (hl : x.segs.length ≤ 8) : RunV n x := by
 simp only [runB, Bool.and_eq_true] at h
 refine ⟨?_, hl, fun i hi => segV_of (List.all_eq_true.1 h.2 i (List.mem_range.2 hi))⟩
 have := h.1
 simp only [uptoB, Bool.and_eq_true, decide_eq_true_eq] at this
 omega
theorem enter_runs {R : List (Int × Int)} {rs : List RunD} (h : enterF R rs = 0) : RunsV R.length rs := by
 have hc := enter_mat h
 unfold enterF at h
 rw [if_neg (by rw [hc]; decide)] at h
 by_cases h1 : rs.length ≤ 6 ∧ shortB rs = true
 ·rw [if_neg (fun hh => hh h1)] at h
  by_cases h2 : allRunB R rs = true
  ·exact ⟨h1.1, fun i hi => runV_of (List.all_eq_true.1 h2 i (List.mem_range.2 hi)) (short_at h1.2 hi)⟩
  ·rw [if_pos h2] at h; exact absurd h (by decide)
 ·rw [if_pos h1] at h; exact absurd h (by decide)
theorem enter_0 {R : List (Int × Int)} {rs : List RunD} (hc : checkF R = 0) (h1 : rs.length ≤ 6) (h2 : shortB rs = true) (h3 : allRunB R rs = true) : enterF R rs = 0 := by
 unfold enterF; rw [if_neg (by rw [hc]; decide), if_neg (fun h => h ⟨h1, h2⟩), if_neg (fun h => h h3)]
theorem enter_1 {R : List (Int × Int)} {rs : List RunD} (hc : checkF R = 0) (h1 : rs.length ≤ 6) (h2 : shortB rs = true) (h3 : allRunB R rs = false) : enterF R rs = 1 := by
 unfold enterF; rw [if_neg (by rw [hc]; decide), if_neg (fun h => h ⟨h1, h2⟩), if_pos (by rw [h3]; decide)]
theorem enter_3a {R : List (Int × Int)} {rs : List RunD} (hc : checkF R = 0) (h1 : ¬ rs.length ≤ 6) : enterF R rs = 3 := by
 unfold enterF; rw [if_neg (by rw [hc]; decide), if_pos (fun h => h1 h.1)]
theorem enter_3b {R : List (Int × Int)} {rs : List RunD} (hc : checkF R = 0) (h2 : shortB rs = false) : enterF R rs = 3 := by
 unfold enterF; rw [if_neg (by rw [hc]; decide), if_pos (fun h => by rw [h2] at h; exact absurd h.2 (by decide))]
theorem enter_c {R : List (Int × Int)} {rs : List RunD} (hc : ¬ checkF R = 0) : enterF R rs = checkF R := by
 unfold enterF; rw [if_pos hc]
theorem check_01 (R : List (Int × Int)) : checkF R = 0 ∨ checkF R = 1 := by
 unfold checkF; split
 ·split <;> simp
 ·simp
theorem callsB {P : Program} {f : FuncId} {args : Array Value} {w : World} {b' : Bool} (k : Calls P f args w (Ret fun v w' => v = .bool b' ∧ Ext NoB w w')) (b : Bool) (h : b' = b) : Calls P f args w (Ret fun v w' => v = .bool b ∧ Ext NoB w w') := by subst h; exact k
def possF (R : List (Int × Int)) (rs : List RunD) : Int := if enterF R rs ≠ 0 then enterF R rs else if (allowedF R rs).length = 0 then 9 else 0
theorem poss_e {R : List (Int × Int)} {rs : List RunD} (h : enterF R rs ≠ 0) : possF R rs = enterF R rs := if_pos h
theorem poss_9 {R : List (Int × Int)} {rs : List RunD} (h : enterF R rs = 0) (h2 : (allowedF R rs).length = 0) : possF R rs = 9 := by
 unfold possF; rw [if_neg (fun hh => hh h), if_pos h2]
theorem poss_0 {R : List (Int × Int)} {rs : List RunD} (h : enterF R rs = 0) (h2 : 0 < (allowedF R rs).length) : possF R rs = 0 := by
 unfold possF; rw [if_neg (fun hh => hh h), if_neg (by omega)]
theorem poss_is {R : List (Int × Int)} {rs : List RunD} (h : possF R rs = 0) : enterF R rs = 0 ∧ 0 < (allowedF R rs).length := by
 unfold possF at h
 by_cases he : enterF R rs = 0
 ·rw [if_neg (fun hh => hh he)] at h
  by_cases h2 : (allowedF R rs).length = 0
  ·rw [if_pos h2] at h; exact absurd h (by decide)
  ·exact ⟨he, by omega⟩
 ·rw [if_pos he] at h; exact absurd h he
end Go.Proofs.Ytkkglkdnnfegkaa

namespace Go.Proofs.Ytkkglkdnnfegkaa
open Go.RowKit Go.Eng
/-! ### The ranges of the rates -/
def withF (p : Int × Int) (n : Int) (first : Bool) : Int × Int := (if first = true then n else min p.1 n, if first = true then n else max p.2 n)
def midW (old : List (Int × Int)) (l : List Int) (first : Bool) (b : Nat) : List (Int × Int) := (List.range old.length).map fun i => if i < b then withF (old.getD i (0, 0)) (l.getD i 0) first else old.getD i (0, 0)
def outF (A : List (List Int)) (n : Nat) : Nat → List (Int × Int)
  | 0 => List.replicate n (0, 0)
  | k + 1 => midW (outF A n k) (A.getD k []) (decide ((k : Int) = 0)) n
theorem midW_len (old : List (Int × Int)) (l : List Int) (first : Bool) (b : Nat) : (midW old l first b).length = old.length := by simp [midW]
theorem outF_len (A : List (List Int)) (n : Nat) : ∀ k, (outF A n k).length = n
  | 0 => by simp [outF]
  | k + 1 => by rw [outF, midW_len, outF_len A n k]
theorem midW_getD {old : List (Int × Int)} {l : List Int} {first : Bool} {b i : Nat} (hi : i < old.length) : (midW old l first b).getD i (0, 0) = if i < b then withF (old.getD i (0, 0)) (l.getD i 0) first else old.getD i (0, 0) := by
  simp [midW, List.getD, hi]
theorem midW_zero (old : List (Int × Int)) (l : List Int) (first : Bool) : midW old l first 0 = old := by
  apply List.ext_getElem (by simp [midW])
  intro i h1 h2
  simp [midW, List.getD, h2]
theorem midW_set {old : List (Int × Int)} {l : List Int} {first : Bool} {b : Nat} (hb : b < old.length) :
    (midW old l first b).set b (withF ((midW old l first b).getD b (0, 0)) (l.getD b 0) first) = midW old l first (b + 1) := by
  apply List.ext_getElem (by simp [midW])
  intro i h1 h2
  have eb : (midW old l first b).getD b (0, 0) = old.getD b (0, 0) := by rw [midW_getD hb, if_neg (Nat.lt_irrefl b)]
  have hi : i < old.length := by simpa [midW] using h2
  by_cases e : i = b
  · subst e
    rw [List.getElem_set_self, eb]
    simp [midW]
  · rw [List.getElem_set_ne (fun h => e h.symm)]
    simp only [midW, List.getElem_map, List.getElem_range]
    by_cases h3 : i < b
    · rw [if_pos h3, if_pos (by omega)]
    · rw [if_neg h3, if_neg (by omega)]
theorem outF_succ (A : List (List Int)) (n k : Nat) {b : Nat} (hb : n = b) : midW (outF A n k) (A.getD k []) (decide ((k : Int) = 0)) b = outF A n (k + 1) := by subst hb; rfl
theorem fromF_len {R : List (Int × Int)} (hR : MatV R) : ∀ (m : Nat) (arr : List Int) (band : Nat), RatesV arr → (fromF R m arr band).length ≤ 1001 ^ m
  | 0, arr, band, ha => by simp [fromF]
  | m + 1, arr, band, ha => by
    have h1 := lowF_bd hR ha band
    have h2 := hR.2 band
    have hc : cntF R arr band ≤ 1001 := by unfold cntF; omega
    have key : ∀ t, t ≤ cntF R arr band → (fromUpto R m arr band t).length ≤ 1001 ^ m * t := by
      intro t
      induction t with
      | zero => intro _; simp [fromUpto]
      | succ t ih =>
        intro ht
        have := ih (by omega)
        have h3 := fromF_len hR m (arr.set band (lowF R arr band + (t : Int))) (band + 1) (ratesV_set ha (by unfold cntF at ht; omega))
        rw [fromUpto_succ, List.length_append, Nat.mul_succ]; omega
    rw [fromF_end]
    calc _ ≤ 1001 ^ m * cntF R arr band := key _ (Nat.le_refl _)
      _ ≤ 1001 ^ m * 1001 := Nat.mul_le_mul_left _ hc
      _ = 1001 ^ (m + 1) := (Nat.pow_succ ..).symm
theorem lists_len {R : List (Int × Int)} (hR : MatV R) : (listsF R).length ≤ 1003003001 := by
  refine Nat.le_trans (fromF_len hR R.length [0, 0, 0] 0 zero_rates) ?_
  calc 1001 ^ R.length ≤ 1001 ^ 3 := Nat.pow_le_pow_right (by decide) hR.1
    _ = 1003003001 := by decide
theorem allowed_le {R : List (Int × Int)} {rs : List RunD} (hR : MatV R) : (allowedF R rs).length ≤ 1003003001 := Nat.le_trans (List.length_filter_le ..) (lists_len hR)
def ratesF (R : List (Int × Int)) (rs : List RunD) : List (Int × Int) := outF (allowedF R rs) R.length (allowedF R rs).length
end Go.Proofs.Ytkkglkdnnfegkaa

namespace Go.Proofs.Ytkkglkdnnfegkaa
open Go.RowKit Go.Eng

/-! ### Plans -/
def allSegB (n : Nat) (plan : List Seg) : Bool := (List.range plan.length).all fun i => segB n (plan.getD i (0, 0, 0))
def planF (R : List (Int × Int)) (rs : List RunD) (plan : List Seg) : Int :=
  if possF R rs ≠ 0 then possF R rs else if plan.length ≤ 8 ∧ allSegB R.length plan = true then 0 else 2
theorem plan_p {R : List (Int × Int)} {rs : List RunD} {plan : List Seg} (h : possF R rs ≠ 0) : planF R rs plan = possF R rs := if_pos h
theorem plan_0 {R : List (Int × Int)} {rs : List RunD} {plan : List Seg} (h : possF R rs = 0) (h1 : plan.length ≤ 8) (h2 : allSegB R.length plan = true) : planF R rs plan = 0 := by
  unfold planF; rw [if_neg (fun hh => hh h), if_pos ⟨h1, h2⟩]
theorem plan_2 {R : List (Int × Int)} {rs : List RunD} {plan : List Seg} (h : possF R rs = 0) (h1 : ¬ (plan.length ≤ 8 ∧ allSegB R.length plan = true)) : planF R rs plan = 2 := by
  unfold planF; rw [if_neg (fun hh => hh h), if_neg h1]
theorem plan_2a {R : List (Int × Int)} {rs : List RunD} {plan : List Seg} (h : possF R rs = 0) (h1 : ¬ plan.length ≤ 8) : planF R rs plan = 2 := plan_2 h (fun hh => h1 hh.1)
theorem plan_2b {R : List (Int × Int)} {rs : List RunD} {plan : List Seg} (h : possF R rs = 0) (h1 : allSegB R.length plan = false) : planF R rs plan = 2 := plan_2 h (fun hh => by rw [h1] at hh; exact absurd hh.2 (by decide))
theorem plan_is {R : List (Int × Int)} {rs : List RunD} {plan : List Seg} (h : planF R rs plan = 0) : possF R rs = 0 ∧ plan.length ≤ 8 ∧ ∀ i, i < plan.length → SegV R.length (plan.getD i (0, 0, 0)) := by
  unfold planF at h
  by_cases hp : possF R rs = 0
  · rw [if_neg (fun hh => hh hp)] at h
    by_cases h1 : plan.length ≤ 8 ∧ allSegB R.length plan = true
    · exact ⟨hp, h1.1, fun i hi => segV_of (List.all_eq_true.1 h1.2 i (List.mem_range.2 hi))⟩
    · rw [if_neg h1] at h; exact absurd h (by decide)
  · rw [if_pos hp] at h; exact absurd h hp

/-! ### The ends of a plan's stretch -/
def leastF (plan : List Seg) (A : List (List Int)) : Nat → List Int
  | 0 => [0, 0, 0]
  | k + 1 => if k = 0 ∨ stLo plan (A.getD k []) < stLo plan (leastF plan A k) then A.getD k [] else leastF plan A k
def mostF (plan : List Seg) (A : List (List Int)) : Nat → List Int
  | 0 => [0, 0, 0]
  | k + 1 => if k = 0 ∨ stHi plan (mostF plan A k) < stHi plan (A.getD k []) then A.getD k [] else mostF plan A k
section
variable {plan : List Seg} {A : List (List Int)} {q : Nat}
theorem least_a (h : decide (q = 0) = true) : leastF plan A (q + 1) = A.getD q [] := if_pos (.inl (of_decide_eq_true h))
theorem least_b (h : stLo plan (A.getD q []) < stLo plan (leastF plan A q)) : leastF plan A (q + 1) = A.getD q [] := if_pos (.inr h)
theorem least_c (h : decide (q = 0) = false) (h2 : ¬ stLo plan (A.getD q []) < stLo plan (leastF plan A q)) : leastF plan A (q + 1) = leastF plan A q := if_neg (fun hh => hh.elim (of_decide_eq_false h) h2)
theorem most_a (h : decide (q = 0) = true) : mostF plan A (q + 1) = A.getD q [] := if_pos (.inl (of_decide_eq_true h))
theorem most_b (h : stHi plan (mostF plan A q) < stHi plan (A.getD q [])) : mostF plan A (q + 1) = A.getD q [] := if_pos (.inr h)
theorem most_c (h : decide (q = 0) = false) (h2 : ¬ stHi plan (mostF plan A q) < stHi plan (A.getD q [])) : mostF plan A (q + 1) = mostF plan A q := if_neg (fun hh => hh.elim (of_decide_eq_false h) h2)
theorem least_rates (hA : ∀ k, k < A.length → RatesV (A.getD k [])) : ∀ q, q ≤ A.length → RatesV (leastF plan A q)
  | 0, _ => zero_rates
  | q + 1, h => by
    unfold leastF; split
    · exact hA q (by omega)
    · exact least_rates hA q (by omega)
theorem most_rates (hA : ∀ k, k < A.length → RatesV (A.getD k [])) : ∀ q, q ≤ A.length → RatesV (mostF plan A q)
  | 0, _ => zero_rates
  | q + 1, h => by
    unfold mostF; split
    · exact hA q (by omega)
    · exact most_rates hA q (by omega)
end
def leastR (R : List (Int × Int)) (rs : List RunD) (plan : List Seg) : List Int := leastF plan (allowedF R rs) (allowedF R rs).length
def mostR (R : List (Int × Int)) (rs : List RunD) (plan : List Seg) : List Int := mostF plan (allowedF R rs) (allowedF R rs).length
theorem leastR_rates {R : List (Int × Int)} {rs : List RunD} {plan : List Seg} (hR : MatV R) : RatesV (leastR R rs plan) := least_rates (fun _ hk => (allowed_rates hR hk).1) _ (Nat.le_refl _)
theorem mostR_rates {R : List (Int × Int)} {rs : List RunD} {plan : List Seg} (hR : MatV R) : RatesV (mostR R rs plan) := most_rates (fun _ hk => (allowed_rates hR hk).1) _ (Nat.le_refl _)

/-! ### Lives -/
def lifeU (A : List (List Int)) (band : Nat) (s : Int) : Nat → (Int × Int) × Bool
  | 0 => ((-1, -1), false)
  | k + 1 =>
    if hoursF ((A.getD k []).getD band 0) s = -1 then ((lifeU A band s k).1, true)
    else (withF (lifeU A band s k).1 (hoursF ((A.getD k []).getD band 0) s) (decide ((lifeU A band s k).1.1 = -1) && decide ((lifeU A band s k).1.2 = -1)), (lifeU A band s k).2)
theorem lifeU_y {A : List (List Int)} {band q : Nat} {s : Int} (h : hoursF ((A.getD q []).getD band 0) s = -1) : lifeU A band s (q + 1) = ((lifeU A band s q).1, true) := if_pos h
theorem lifeU_n {A : List (List Int)} {band q : Nat} {s : Int} (h : ¬ hoursF ((A.getD q []).getD band 0) s = -1) : lifeU A band s (q + 1) = (withF (lifeU A band s q).1 (hoursF ((A.getD q []).getD band 0) s) (decide ((lifeU A band s q).1.1 = -1) && decide ((lifeU A band s q).1.2 = -1)), (lifeU A band s q).2) := if_neg h
def lifeR (A : List (List Int)) (band : Nat) (s : Int) : Int × Int := ((lifeU A band s A.length).1.1, if (lifeU A band s A.length).2 = true then -1 else (lifeU A band s A.length).1.2)
def lifeE (R : List (Int × Int)) (rs : List RunD) (band s : Int) : Int :=
  if possF R rs ≠ 0 then possF R rs else if (0 ≤ band ∧ band ≤ (R.length : Int) - 1) ∧ 0 ≤ s ∧ s ≤ 10000000000 then 0 else 2
theorem life_p {R : List (Int × Int)} {rs : List RunD} {band s : Int} (h : possF R rs ≠ 0) : lifeE R rs band s = possF R rs := if_pos h
theorem life_0 {R : List (Int × Int)} {rs : List RunD} {band s : Int} (h : possF R rs = 0) (h1 : (0 ≤ band ∧ band ≤ (R.length : Int) - 1) ∧ 0 ≤ s ∧ s ≤ 10000000000) : lifeE R rs band s = 0 := by
  unfold lifeE; rw [if_neg (fun hh => hh h), if_pos h1]
theorem life_2 {R : List (Int × Int)} {rs : List RunD} {band s : Int} (h : possF R rs = 0) (h1 : ¬ ((0 ≤ band ∧ band ≤ (R.length : Int) - 1) ∧ 0 ≤ s ∧ s ≤ 10000000000)) : lifeE R rs band s = 2 := by
  unfold lifeE; rw [if_neg (fun hh => hh h), if_neg h1]
end Go.Proofs.Ytkkglkdnnfegkaa

namespace Go.Proofs.Ytkkglkdnnfegkaa
open Go.RowKit Go.Eng

theorem all_yes {n : Nat} {p : Nat → Bool} (h : ∀ i, i < n → p i = true) : (List.range n).all p = true := List.all_eq_true.2 fun i hi => h i (List.mem_range.1 hi)
theorem all_no {n k : Nat} {p : Nat → Bool} (hk : k < n) (h : p k = false) : (List.range n).all p = false := by
  rw [List.all_eq_false]
  exact ⟨k, List.mem_range.2 hk, by rw [h]; decide⟩

/-! ### What is played -/
def thinB (R : List (Int × Int)) (rs : List RunD) (pl : Nat) : Bool :=
  ((List.range (min rs.length 10)).all fun i => decide ((rs.getD i run0).segs.length ≤ 12)) && (decide (R.length ≤ 6) && decide (rs.length ≤ 9) && decide (pl ≤ 12))
structure ThinV (R : List (Int × Int)) (rs : List RunD) (pl : Nat) : Prop where
  mat : R.length ≤ 6
  runs : rs.length ≤ 9
  segs : ∀ i, i < rs.length → (rs.getD i run0).segs.length ≤ 12
  plan : pl ≤ 12
theorem thin_of {R : List (Int × Int)} {rs : List RunD} {pl : Nat} (h : thinB R rs pl = true) : ThinV R rs pl := by
  simp only [thinB, Bool.and_eq_true, decide_eq_true_eq] at h
  exact ⟨by omega, by omega, fun i hi => by simpa using List.all_eq_true.1 h.1 i (List.mem_range.2 (by omega)), by omega⟩

/-! ### The error of a material -/
def leastU (R : List (Int × Int)) : Nat → Int
  | 0 => 0
  | k + 1 => max (leastU R k) (R.getD k (0, 0)).1
/-- Rates that grow, from some number on. -/
theorem fromF_pos {R : List (Int × Int)} : ∀ (m : Nat) (arr : List Int) (band : Nat), band + m = R.length → arr.length = 3 → R.length ≤ 3 → (band = 0 ∨ arr.getD (band - 1) 0 = leastU R band) → (∀ i, i < R.length → 0 ≤ (R.getD i (0, 0)).1) → (∀ i, i < R.length → leastU R (i + 1) ≤ (R.getD i (0, 0)).2) → 0 < (fromF R m arr band).length
  | 0, arr, band, _, _, _, _, _, _ => by simp [fromF]
  | m + 1, arr, band, hb, ha, h3, hl, h0, h => by
    have h1 := h band (by omega)
    have e : lowF R arr band = leastU R (band + 1) := by
      have hz := h0 band (by omega)
      unfold lowF leastU
      rcases hl with rfl | hl
      · rw [if_neg (by omega)]; simp only [leastU]; omega
      · by_cases hp : 0 < band
        · rw [if_pos hp, hl]; omega
        · have : band = 0 := by omega
          subst this
          rw [if_neg (by omega)]; simp only [leastU]; omega
    have hc : 0 < cntF R arr band := by unfold cntF; rw [e]; omega
    obtain ⟨rest, hr⟩ := fromF_split (m := m) hc
    have ih := fromF_pos m (arr.set band (lowF R arr band + ((0 : Nat) : Int))) (band + 1) (by omega) (by simpa using ha) h3 (.inr (by
      rw [Nat.add_sub_cancel, ← e]
      simp [List.getD, List.getElem?_set, ha, show band < 3 by omega])) h0 h
    rw [hr]; simp only [List.length_append]; omega
theorem lists_pos {R : List (Int × Int)} (h3 : R.length ≤ 3) (h0 : ∀ i, i < R.length → 0 ≤ (R.getD i (0, 0)).1) (h : ∀ i, i < R.length → leastU R (i + 1) ≤ (R.getD i (0, 0)).2) : 0 < (listsF R).length :=
  fromF_pos R.length [0, 0, 0] 0 (Nat.zero_add _) rfl h3 (.inl rfl) h0 h
/-- Where the rates grow beyond a band, there are none. -/
theorem fromF_nil {R : List (Int × Int)} {k : Nat} (hk : k < R.length) (hbad : (R.getD k (0, 0)).2 < leastU R (k + 1)) : ∀ (m : Nat) (arr : List Int) (band : Nat), band + m = R.length → arr.length = 3 → R.length ≤ 3 → (0 ≤ (R.getD 0 (0, 0)).1) → band ≤ k → (band = 0 ∨ leastU R band ≤ arr.getD (band - 1) 0) → fromF R m arr band = []
  | 0, arr, band, hb, _, _, _, hbk, _ => by omega
  | m + 1, arr, band, hb, ha, h3, h0, hbk, hl => by
    have e : leastU R (band + 1) ≤ lowF R arr band := by
      unfold lowF leastU
      by_cases hp : 0 < band
      · rw [if_pos hp]
        rcases hl with rfl | hl
        · omega
        · omega
      · have : band = 0 := by omega
        subst this
        rw [if_neg (by omega)]; simp only [leastU]; omega
    by_cases hbe : band = k
    · subst hbe
      have hc : cntF R arr band = 0 := by unfold cntF; omega
      simp [fromF, hc]
    · simp only [fromF, List.flatMap_eq_nil_iff, List.mem_range]
      intro t ht
      refine fromF_nil hk hbad m _ (band + 1) (by omega) (by simpa using ha) h3 h0 (by omega) (.inr ?_)
      rw [Nat.add_sub_cancel]
      have : (arr.set band (lowF R arr band + (t : Int))).getD band 0 = lowF R arr band + (t : Int) := by simp [List.getD, List.getElem?_set, ha, show band < 3 by omega]
      rw [this]; omega
theorem check_yes {R : List (Int × Int)} (h1 : 1 ≤ R.length ∧ R.length ≤ 3) (hr : ∀ i, i < R.length → rateB (R.getD i (0, 0)) = true) (h : ∀ i, i < R.length → leastU R (i + 1) ≤ (R.getD i (0, 0)).2) : checkF R = 0 := by
  have h0 : ∀ i, i < R.length → 0 ≤ (R.getD i (0, 0)).1 := fun i hi => by
    have := hr i hi
    simp only [rateB, uptoB, Bool.and_eq_true, decide_eq_true_eq] at this
    omega
  have hp := lists_pos h1.2 h0 h
  unfold checkF
  rw [if_pos ⟨h1, all_yes hr⟩, if_neg (by omega)]
theorem check_n {R : List (Int × Int)} (h1 : ¬ (1 ≤ R.length ∧ R.length ≤ 3)) : checkF R = 1 := if_neg (fun h => h1 h.1)
theorem check_r {R : List (Int × Int)} {k : Nat} (hk : k < R.length) (h : rateB (R.getD k (0, 0)) = false) : checkF R = 1 :=
  if_neg (fun hh => by have := all_no (p := fun i => rateB (R.getD i (0, 0))) hk h; rw [allRateB, this] at hh; exact absurd hh.2 (by decide))
theorem check_l {R : List (Int × Int)} {k : Nat} (hk : k < R.length) (h : (R.getD k (0, 0)).2 < leastU R (k + 1)) : checkF R = 1 := by
  unfold checkF
  split
  · rename_i hh
    have h0 := List.all_eq_true.1 hh.2 0 (List.mem_range.2 (by omega))
    simp only [rateB, uptoB, Bool.and_eq_true, decide_eq_true_eq] at h0
    rw [if_pos (by rw [listsF, fromF_nil hk h R.length [0, 0, 0] 0 (Nat.zero_add _) rfl hh.1.2 (by omega) (Nat.zero_le _) (.inl rfl)]; rfl)]
  · rfl

/-! ### Stretches -/
def stU (segs : List Seg) (r : List Int) (f : Int × Int → Int) : Nat → Int
  | 0 => 0
  | k + 1 => stU segs r f k + r.getD (segs.getD k (0, 0, 0)).1.toNat 0 * f (segs.getD k (0, 0, 0)).2
theorem sumUpto_pre {l m : List Int} : ∀ {k : Nat}, k ≤ l.length → sumUpto (l ++ m) k = sumUpto l k
  | 0, _ => rfl
  | k + 1, h => by
    simp only [sumUpto]
    rw [sumUpto_pre (by omega)]
    have : (l ++ m).getD k 0 = l.getD k 0 := by simp [List.getD, List.getElem?_append, show k < l.length by omega]
    rw [this]
theorem stU_sum (segs : List Seg) (r : List Int) (f : Int × Int → Int) : ∀ k, stU segs r f k = sumF (prodUpto segs r f k)
  | 0 => rfl
  | k + 1 => by
    unfold sumF
    rw [prodUpto_len, prodUpto_succ]
    simp only [stU, sumUpto]
    have e := prodUpto_len segs r f k
    rw [sumUpto_pre (by omega), stU_sum segs r f k, sumF, e]
    congr 1
    simp [List.getD, e]
theorem stU_lo (segs : List Seg) (r : List Int) : stU segs r Prod.fst segs.length = stLo segs r := stU_sum ..
theorem stU_hi (segs : List Seg) (r : List Int) : stU segs r Prod.snd segs.length = stHi segs r := stU_sum ..
theorem stU_bd {n : Nat} {segs : List Seg} {r : List Int} {f : Int × Int → Int} (hr : ∀ i, 0 ≤ r.getD i 0 ∧ r.getD i 0 ≤ 1000) (hs : ∀ i, i < segs.length → SegV n (segs.getD i (0, 0, 0))) (hf : ∀ p : Int × Int, f p = p.1 ∨ f p = p.2) : ∀ k, k ≤ segs.length → 0 ≤ stU segs r f k ∧ stU segs r f k ≤ 1000000000 * (k : Int)
  | 0, _ => by simp [stU]
  | k + 1, h => by
    have ih := stU_bd hr hs hf k (by omega)
    have hk := (hs k (by omega)).h
    have hm := mul_bd (hr (segs.getD k (0, 0, 0)).1.toNat) (b := f (segs.getD k (0, 0, 0)).2) (by rcases hf (segs.getD k (0, 0, 0)).2 with e | e <;> rw [e] <;> omega)
    simp only [stU]
    omega
/-! ### Parts of structs -/
theorem sub_of {cs : List Value} {k : Nat} {a b c : Value} (h : (cs.drop k).take 3 = [a, b, c]) : (cs.drop (k + 1)).take 2 = [b, c] := by
  rw [← List.drop_drop]
  have e : ((cs.drop k).drop 1).take 2 = ((cs.drop k).take 3).drop 1 := by rw [List.drop_take]
  rw [e, h]; rfl
theorem trips_sub {xs : List (Int × Int × Int)} {i : Nat} (h : i < xs.length) : ((trips xs).drop (i * 3 + 1)).take 2 = [.int .i64 (xs.getD i (0, 0, 0)).2.1, .int .i64 (xs.getD i (0, 0, 0)).2.2] := sub_of (trips_all h)
theorem runs_sub {lv : List Value} {rs : List RunD} {i : Nat} (hl : lv.length = rs.length) (h : i < rs.length) : ((vtrips (runV lv rs)).drop (i * 3 + 1)).take 2 = [.int .i64 (rs.getD i run0).lo, .int .i64 (rs.getD i run0).hi] := sub_of (runs_all hl h)
theorem runB_yes {n : Nat} {x : RunD} (h1 : 0 ≤ x.lo ∧ x.lo ≤ x.hi ∧ x.hi ≤ 10000000000) (h2 : ∀ i, i < x.segs.length → segB n (x.segs.getD i (0, 0, 0)) = true) : runB n x = true := by
  unfold runB uptoB; rw [all_yes h2, Bool.and_true]; simp only [Bool.and_eq_true, decide_eq_true_eq]; omega
theorem runB_no {n : Nat} {x : RunD} {k : Nat} (hk : k < x.segs.length) (h : segB n (x.segs.getD k (0, 0, 0)) = false) : runB n x = false := by
  unfold runB; rw [all_no (p := fun i => segB n (x.segs.getD i (0, 0, 0))) hk h, Bool.and_false]
end Go.Proofs.Ytkkglkdnnfegkaa

namespace Go.Proofs.Ytkkglkdnnfegkaa
open Go.RowKit Go.Eng

theorem take_pair {R : List (Int × Int)} {k : Nat} (h : k < R.length) : R.take k ++ [((R.getD k (0, 0)).1, (R.getD k (0, 0)).2)] = R.take (k + 1) := by
  have e : R[k]? = some R[k] := List.getElem?_eq_getElem h
  rw [List.take_add_one, e]
  simp only [List.getD, e, Option.getD_some]; rfl
theorem take_trip {R : List Seg} {k : Nat} (h : k < R.length) : R.take k ++ [((R.getD k (0, 0, 0)).1, (R.getD k (0, 0, 0)).2.1, (R.getD k (0, 0, 0)).2.2)] = R.take (k + 1) := by
  have e : R[k]? = some R[k] := List.getElem?_eq_getElem h
  rw [List.take_add_one, e]
  simp only [List.getD, e, Option.getD_some]; rfl
theorem take_run {R : List RunD} {k : Nat} (h : k < R.length) : R.take k ++ [R.getD k run0] = R.take (k + 1) := by
  have e : R[k]? = some R[k] := List.getElem?_eq_getElem h
  rw [List.take_add_one, e]
  simp only [List.getD, e, Option.getD_some]; rfl
theorem runs_snoc {lv : List Value} {rs : List RunD} (hl : lv.length = rs.length) (u : Value) (x : RunD) : vtrips (runV lv rs) ++ [u, .int .i64 x.lo, .int .i64 x.hi] = vtrips (runV (lv ++ [u]) (rs ++ [x])) := by
  rw [runV_snoc hl, vtrips_append]; rfl
end Go.Proofs.Ytkkglkdnnfegkaa
namespace Go.Eng
open Go.RowKit Go.Eng
open Go.Proofs.Ytkkglkdnnfegkaa
section
variable {X : Nat → Prop} {w0 w : World} {L : List Res}
theorem Sep.segs_nil (h : Eng.Sep X w0 w L) : Eng.Sep X w0 w (segsR true [] [] :: L) := h.push (Ext.refl _ _) ⟨rfl, fun i hi => by simp at hi⟩ (fun b ⟨i, hi, _⟩ => by simp at hi)
theorem Sep.segs_snoc {u : Value} {e : TypeId} {x : RunD} {lv : List Value} {rs : List RunD} (h : Eng.Sep X w0 w (row u e 3 x.segs.length (trips x.segs) :: segsR true lv rs :: L)) : Eng.Sep X w0 w (segsR true (lv ++ [u]) (rs ++ [x]) :: L) := by
  have h1 : (segsR true lv rs).p w := h.ok 1 _ rfl
  have h0 : SlAt w u 3 x.segs.length (trips x.segs) := SlAt.of_row (h.ok_row 0 rfl)
  have each : ∀ i, i < (rs ++ [x]).length → ((lv ++ [u]).getD i nilS = lv.getD i nilS ∧ (rs ++ [x]).getD i run0 = rs.getD i run0 ∧ i < rs.length) ∨ ((lv ++ [u]).getD i nilS = u ∧ (rs ++ [x]).getD i run0 = x) := fun i hi => by
    simp only [List.length_append, List.length_cons, List.length_nil] at hi
    rw [getD_app, getD_app, h1.1]
    by_cases hl : i < rs.length
    · rw [if_pos hl, if_pos hl]; exact .inl ⟨rfl, rfl, hl⟩
    · rw [if_neg hl, if_neg hl, if_pos (by omega), if_pos (by omega)]; exact .inr ⟨rfl, rfl⟩
  refine h.join ⟨by simp [h1.1], fun i hi => ?_⟩ (fun b ⟨i, hi, hb⟩ => ?_) (fun _ => ⟨rfl, rfl⟩) (fun _ => trivial)
  · rcases each i hi with ⟨e1, e2, e3⟩ | ⟨e1, e2⟩
    · rw [e1, e2]; exact h1.2 i e3
    · rw [e1, e2]; exact h0
  · rcases each i hi with ⟨e1, e2, e3⟩ | ⟨e1, e2⟩
    · rw [e1, e2] at hb; exact .inr ⟨i, e3, hb⟩
    · rw [e1, e2] at hb; exact .inl (slFoot_row hb)
theorem Sep.segs_say {i : Nat} {lv : List Value} {rs rs' : List RunD} (h : Eng.Sep X w0 w L) (hi : L[i]? = some (segsR true lv rs)) (e : rs = rs') : Eng.Sep X w0 w (L.set i (segsR true lv rs')) := by
  subst e; rw [set_same hi]; exact h
end
end Go.Eng
namespace Go.Proofs.Ytkkglkdnnfegkaa
open Go.RowKit Go.Eng
section
variable {X : Nat → Prop} {w0 w : World} {L : List Res}
theorem segs_len (h : Eng.Sep X w0 w L) (i : Nat) {lv : List Value} {rs : List RunD} (hi : L[i]? = some (segsR true lv rs)) : lv.length = rs.length := (h.ok i _ hi : (segsR true lv rs).p w).1
end
end Go.Proofs.Ytkkglkdnnfegkaa
namespace Go.Eng
open Go.RowKit Go.Eng
open Go.Proofs.Ytkkglkdnnfegkaa
section
variable {X : Nat → Prop} {w0 w : World} {L : List Res}
theorem Sep.runs_join {v : Value} {e : TypeId} {n : Nat} {lv : List Value} {rs : List RunD} (h : Eng.Sep X w0 w (row v e 3 n (vtrips (runV lv rs)) :: segsR true lv rs :: L)) (hn : n = rs.length) : Eng.Sep X w0 w (runsR true v lv rs :: L) := by
  subst hn
  have h1 : (segsR true lv rs).p w := h.ok 1 _ rfl
  refine h.join ⟨SlAt.of_row (h.ok_row 0 rfl), h1.1, h1.2⟩ (fun b hb => ?_) (fun _ => ⟨rfl, rfl⟩) (fun _ => trivial)
  rcases hb with hb | hb
  · exact .inl (slFoot_row hb)
  · exact .inr hb
end
end Go.Eng
namespace Go.Proofs.Ytkkglkdnnfegkaa
open Go.RowKit Go.Eng
end Go.Proofs.Ytkkglkdnnfegkaa

namespace Go.Proofs.Ytkkglkdnnfegkaa
open Go.RowKit Go.Eng

def rlF (R : List (Int × Int)) : Nat → List Int → List (List Int)
  | 0, l => [l]
  | m + 1, l => (List.range (cntF R l l.length)).flatMap fun (t : Nat) => rlF R m (l ++ [lowF R l l.length + (t : Int)])
def rlUpto (R : List (Int × Int)) (m : Nat) (l : List Int) (t : Nat) : List (List Int) := (List.range t).flatMap fun (t : Nat) => rlF R m (l ++ [lowF R l l.length + (t : Int)])
theorem rlUpto_succ (R : List (Int × Int)) (m : Nat) (l : List Int) (t : Nat) : rlUpto R m l (t + 1) = rlUpto R m l t ++ rlF R m (l ++ [lowF R l l.length + (t : Int)]) := by
  unfold rlUpto; rw [List.range_succ, List.flatMap_append]; simp
theorem rlF_end (R : List (Int × Int)) (m : Nat) (l : List Int) : rlF R (m + 1) l = rlUpto R m l (cntF R l l.length) := rfl
theorem lowF_take {R : List (Int × Int)} {arr l : List Int} (h : arr.take l.length = l) : lowF R arr l.length = lowF R l l.length := by
  unfold lowF
  by_cases hp : 0 < l.length
  · rw [if_pos hp, if_pos hp]
    have : arr.getD (l.length - 1) 0 = l.getD (l.length - 1) 0 := by
      have e : l[l.length - 1]? = (arr.take l.length)[l.length - 1]? := by rw [h]
      rw [List.getElem?_take_of_lt (by omega)] at e
      simp only [List.getD, e]
    rw [this]
  · rw [if_neg hp, if_neg hp]
theorem take_set {arr l : List Int} {x : Int} (h : arr.take l.length = l) (hl : l.length < arr.length) : (arr.set l.length x).take (l ++ [x]).length = l ++ [x] := by
  simp only [List.length_append, List.length_cons, List.length_nil, Nat.zero_add]
  rw [List.take_add_one, List.take_set_of_le (Nat.le_refl _), h]
  simp [hl]
theorem rlF_take {R : List (Int × Int)} (h3 : R.length ≤ 3) : ∀ (m : Nat) (arr l : List Int), l.length + m = R.length → arr.length = 3 → arr.take l.length = l → (fromF R m arr l.length).map (List.take R.length) = rlF R m l
  | 0, arr, l, hb, ha, ht => by
    simp only [fromF, rlF, List.map_cons, List.map_nil]
    rw [show R.length = l.length by omega, ht]
  | m + 1, arr, l, hb, ha, ht => by
    have e := lowF_take (R := R) ht
    have hc : cntF R arr l.length = cntF R l l.length := by unfold cntF; rw [e]
    simp only [fromF, rlF, List.map_flatMap]
    rw [hc]
    congr 1
    funext t
    have ih := rlF_take h3 m (arr.set l.length (lowF R arr l.length + (t : Int))) (l ++ [lowF R arr l.length + (t : Int)]) (by simp; omega) (by simpa using ha) (take_set ht (by omega))
    rw [← e, ← ih]
    simp
/-- The reference's lists. -/
def rlistsF (R : List (Int × Int)) : List (List Int) := rlF R R.length []
theorem rlists_take {R : List (Int × Int)} (h3 : R.length ≤ 3) : (listsF R).map (List.take R.length) = rlistsF R := rlF_take h3 R.length [0, 0, 0] [] (Nat.zero_add _) rfl rfl
theorem rlF_cnt {R : List (Int × Int)} {l : List Int} {t : Nat} (h : lowF R l l.length + (t : Int) ≤ (R.getD l.length (0, 0)).2) : t < cntF R l l.length := cnt_lt h
/-- Few enough. -/
theorem rlF_len {R : List (Int × Int)} (hR : MatV R) : ∀ (m : Nat) (l : List Int), (∀ i, 0 ≤ l.getD i 0 ∧ l.getD i 0 ≤ 1000) → (rlF R m l).length ≤ 1001 ^ m
  | 0, l, _ => by simp [rlF]
  | m + 1, l, hl => by
    have hb : 0 ≤ lowF R l l.length := by
      have h1 := hR.2 l.length
      unfold lowF; split <;> omega
    have h2 := hR.2 l.length
    have hc : cntF R l l.length ≤ 1001 := by unfold cntF; omega
    have key : ∀ t, t ≤ cntF R l l.length → (rlUpto R m l t).length ≤ 1001 ^ m * t := by
      intro t
      induction t with
      | zero => intro _; simp [rlUpto]
      | succ t ih =>
        intro ht
        have := ih (by omega)
        have h3 := rlF_len hR m (l ++ [lowF R l l.length + (t : Int)]) (fun i => by
          rw [getD_app]
          split
          · exact hl i
          · split
            · unfold cntF at ht; omega
            · omega)
        rw [rlUpto_succ, List.length_append, Nat.mul_succ]; omega
    rw [rlF_end]
    calc _ ≤ 1001 ^ m * cntF R l l.length := key _ (Nat.le_refl _)
      _ ≤ 1001 ^ m * 1001 := Nat.mul_le_mul_left _ hc
      _ = 1001 ^ (m + 1) := (Nat.pow_succ ..).symm
theorem small_snoc {R : List (Int × Int)} {l : List Int} {t : Nat} (hR : MatV R) (hl : ∀ i, 0 ≤ l.getD i 0 ∧ l.getD i 0 ≤ 1000) (ht : t < cntF R l l.length) : ∀ i, 0 ≤ (l ++ [lowF R l l.length + (t : Int)]).getD i 0 ∧ (l ++ [lowF R l l.length + (t : Int)]).getD i 0 ≤ 1000 := fun i => by
  have h1 := hR.2 l.length
  have hb : 0 ≤ lowF R l l.length := by unfold lowF; split <;> omega
  rw [getD_app]
  split
  · exact hl i
  · split
    · unfold cntF at ht; omega
    · omega
theorem pow_small {m : Nat} (h : m ≤ 3) : 1001 ^ m ≤ 1003003001 := by
  calc 1001 ^ m ≤ 1001 ^ 3 := Nat.pow_le_pow_right (by decide) h
    _ = 1003003001 := by decide
end Go.Proofs.Ytkkglkdnnfegkaa

namespace Go.Proofs.Ytkkglkdnnfegkaa
open Go.RowKit Go.Eng

/-- The places that a filter has taken. -/
def fsel (p : List Int → Bool) (all : List (List Int)) : Nat → List Nat
  | 0 => []
  | k + 1 => if p (all.getD k []) = true then fsel p all k ++ [k] else fsel p all k
theorem fsel_yes {p : List Int → Bool} {all : List (List Int)} {k : Nat} (h : p (all.getD k []) = true) : fsel p all (k + 1) = fsel p all k ++ [k] := if_pos h
theorem fsel_no {p : List Int → Bool} {all : List (List Int)} {k : Nat} (h : p (all.getD k []) = false) : fsel p all (k + 1) = fsel p all k := if_neg (by rw [h]; decide)
theorem fsel_lt (p : List Int → Bool) (all : List (List Int)) : ∀ k, ∀ i ∈ fsel p all k, i < k
  | 0, i, h => by simp [fsel] at h
  | k + 1, i, h => by
    unfold fsel at h
    split at h
    · rcases List.mem_append.1 h with h | h
      · have := fsel_lt p all k i h; omega
      · rw [List.mem_singleton] at h; omega
    · have := fsel_lt p all k i h; omega
theorem fsel_len (p : List Int → Bool) (all : List (List Int)) : ∀ k, (fsel p all k).length ≤ k
  | 0 => by simp [fsel]
  | k + 1 => by
    have := fsel_len p all k
    unfold fsel; split
    · simp only [List.length_append, List.length_cons, List.length_nil]; omega
    · omega
theorem fsel_map (p : List Int → Bool) (all : List (List Int)) : ∀ k, k ≤ all.length → (fsel p all k).map (fun i => all.getD i []) = fUpto p all k
  | 0, _ => rfl
  | k + 1, h => by
    have ih := fsel_map p all k (by omega)
    rw [fUpto_succ p all (by omega) []]
    unfold fsel
    split
    · rw [List.map_append, ih]; rfl
    · rw [ih, List.append_nil]
theorem fsel_all (p : List Int → Bool) (all : List (List Int)) {k : Nat} (h : k = all.length) : (fsel p all k).map (fun i => all.getD i []) = all.filter p := by
  subst h; rw [fsel_map p all _ (Nat.le_refl _), fUpto_all]
def rallowF (R : List (Int × Int)) (rs : List RunD) : List (List Int) := (rlistsF R).filter (allowB rs)
theorem stU_congr {n : Nat} {segs : List Seg} {r r' : List Int} (f : Int × Int → Int) (h : ∀ i, i < n → r.getD i 0 = r'.getD i 0) (hs : ∀ i, i < segs.length → SegV n (segs.getD i (0, 0, 0))) : ∀ k, k ≤ segs.length → stU segs r f k = stU segs r' f k
  | 0, _ => rfl
  | k + 1, hk => by
    have hb := (hs k (by omega)).b
    simp only [stU]
    rw [stU_congr f h hs k (by omega), h _ (by omega)]
theorem st_congr {n : Nat} {segs : List Seg} {r r' : List Int} (h : ∀ i, i < n → r.getD i 0 = r'.getD i 0) (hs : ∀ i, i < segs.length → SegV n (segs.getD i (0, 0, 0))) : stLo segs r = stLo segs r' ∧ stHi segs r = stHi segs r' := by
  rw [← stU_lo, ← stU_lo, ← stU_hi, ← stU_hi]
  exact ⟨stU_congr _ h hs _ (Nat.le_refl _), stU_congr _ h hs _ (Nat.le_refl _)⟩
theorem allowB_congr {n : Nat} {rs : List RunD} {r r' : List Int} (h : ∀ i, i < n → r.getD i 0 = r'.getD i 0) (hV : RunsV n rs) : allowB rs r = allowB rs r' := by
  have key : ∀ i, i < rs.length → allowsB (rs.getD i run0) r = allowsB (rs.getD i run0) r' := fun i hi => by
    obtain ⟨e1, e2⟩ := st_congr h (hV.runs i hi).segs
    unfold allowsB; rw [e1, e2]
  rw [Bool.eq_iff_iff]
  unfold allowB
  rw [List.all_eq_true, List.all_eq_true]
  exact ⟨fun hh i hi => by rw [← key i (List.mem_range.1 hi)]; exact hh i hi, fun hh i hi => by rw [key i (List.mem_range.1 hi)]; exact hh i hi⟩
theorem take_getD {l : List Int} {n i : Nat} (h : i < n) : (l.take n).getD i 0 = l.getD i 0 := by
  simp [List.getD, List.getElem?_take, h]
theorem rlists_len {R : List (Int × Int)} (h3 : R.length ≤ 3) : (rlistsF R).length = (listsF R).length := by rw [← rlists_take h3, List.length_map]
theorem rlists_at {R : List (Int × Int)} (h3 : R.length ≤ 3) {k : Nat} (h : k < (rlistsF R).length) : (rlistsF R).getD k [] = ((listsF R).getD k []).take R.length := by
  have hl := rlists_len h3
  have hk : k < (listsF R).length := by omega
  rw [← rlists_take h3]
  simp [List.getD, hk]
theorem rlists_small {R : List (Int × Int)} (hR : MatV R) {k : Nat} (h : k < (rlistsF R).length) : ((rlistsF R).getD k []).length = R.length ∧ ∀ i, 0 ≤ ((rlistsF R).getD k []).getD i 0 ∧ ((rlistsF R).getD k []).getD i 0 ≤ 1000 := by
  have hl := rlists_len hR.1
  have hr := lists_rates hR (k := k) (by omega)
  have h3 := hR.1
  rw [rlists_at hR.1 h]
  refine ⟨by rw [List.length_take, hr.1]; omega, fun i => ?_⟩
  by_cases hi : i < R.length
  · rw [take_getD hi]; exact hr.2 i
  · have : (((listsF R).getD k []).take R.length).getD i 0 = 0 := by
      simp [List.getD, List.getElem?_take, hi]
    rw [this]; decide
theorem rallow_take {R : List (Int × Int)} {rs : List RunD} (hR : MatV R) (hV : RunsV R.length rs) : (allowedF R rs).map (List.take R.length) = rallowF R rs := by
  unfold rallowF allowedF
  rw [← rlists_take hR.1, List.filter_map]
  congr 1
  apply List.filter_congr
  intro l _
  exact allowB_congr (n := R.length) (fun i hi => (take_getD hi).symm) hV
theorem rallow_len {R : List (Int × Int)} {rs : List RunD} (hR : MatV R) (hV : RunsV R.length rs) : (rallowF R rs).length = (allowedF R rs).length := by rw [← rallow_take hR hV, List.length_map]
theorem rallow_at {R : List (Int × Int)} {rs : List RunD} (hR : MatV R) (hV : RunsV R.length rs) {k : Nat} (h : k < (rallowF R rs).length) : (rallowF R rs).getD k [] = ((allowedF R rs).getD k []).take R.length := by
  have hl := rallow_len hR hV
  have hk : k < (allowedF R rs).length := by omega
  rw [← rallow_take hR hV]
  simp [List.getD, hk]
end Go.Proofs.Ytkkglkdnnfegkaa

namespace Go.Proofs.Ytkkglkdnnfegkaa
open Go.RowKit Go.Eng

def hotR : List (Int × Int) := [(1, 3), (2, 8)]
def madeR : List RunD := [⟨[(0, 100, 100), (1, 10, 10)], 220, 250⟩, ⟨[(1, 20, 30)], 90, 100⟩]
def hotP : List Seg := [(0, 1000, 1000), (1, 10, 20)]
theorem poss_hot : possF hotR madeR = 0 := by decide +kernel
theorem plan_hot : planF hotR madeR hotP = 0 := by decide +kernel
theorem rates_hot : ratesF hotR madeR = [(2, 2), (3, 5)] := by decide +kernel
theorem many_hot : (allowedF hotR madeR).length = 3 := by decide +kernel
theorem low_hot : stLo hotP (leastR hotR madeR hotP) = 2030 := by decide +kernel
theorem high_hot : stHi hotP (mostR hotR madeR hotP) = 2100 := by decide +kernel
theorem life_hot : lifeE hotR madeR 1 1000 = 0 := by decide +kernel
theorem life_hot1 : (lifeR (allowedF hotR madeR) (1 : Int).toNat 1000).1 = 200 := by decide +kernel
theorem life_hot2 : (lifeR (allowedF hotR madeR) (1 : Int).toNat 1000).2 = 334 := by decide +kernel
end Go.Proofs.Ytkkglkdnnfegkaa

namespace Go.Proofs.Ytkkglkdnnfegkaa
open Go.RowKit Go.Eng

def rngU (A : List (List Int)) (b : Nat) : Nat → Int × Int
  | 0 => ((A.getD 0 []).getD b 0, (A.getD 0 []).getD b 0)
  | i + 1 => (min (rngU A b i).1 ((A.getD i []).getD b 0), max (rngU A b i).2 ((A.getD i []).getD b 0))
theorem outF_rng {A B : List (List Int)} {n b : Nat} (hb : b < n) (h : ∀ i, i < A.length → (B.getD i []).getD b 0 = (A.getD i []).getD b 0) : ∀ q, q + 1 ≤ A.length → (outF A n (q + 1)).getD b (0, 0) = rngU B b (q + 1)
  | 0, hq => by
    rw [outF, midW_getD (by rw [outF_len]; exact hb), if_pos hb]
    simp only [withF, rngU]
    rw [h 0 (by omega)]
    simp
  | q + 1, hq => by
    have ih := outF_rng hb h q (by omega)
    rw [outF, midW_getD (by rw [outF_len]; exact hb), if_pos hb, ih]
    conv => rhs; rw [rngU]
    rw [h (q + 1) (by omega)]
    have hz : decide (((q + 1 : Nat) : Int) = 0) = false := decide_eq_false (by omega)
    simp only [withF, hz, Bool.false_eq_true, if_false]
theorem rates_rng {R : List (Int × Int)} {rs : List RunD} (hR : MatV R) (hV : RunsV R.length rs) (hpos : 0 < (allowedF R rs).length) {b m : Nat} (hb : b < R.length) (hm : m = (rallowF R rs).length) : (ratesF R rs).getD b (0, 0) = rngU (rallowF R rs) b m := by
  have hl := rallow_len hR hV
  subst hm
  unfold ratesF
  rw [hl]
  obtain ⟨q, hq⟩ : ∃ q, (allowedF R rs).length = q + 1 := ⟨(allowedF R rs).length - 1, by omega⟩
  rw [hq]
  exact outF_rng hb (fun i hi => by rw [rallow_at hR hV (by omega), take_getD hb]) q (by omega)
theorem rates_eq {R : List (Int × Int)} {rs : List RunD} (hR : MatV R) (hV : RunsV R.length rs) (hpos : 0 < (allowedF R rs).length) {b m : Nat} (hb : b < R.length) (hm : m = (rallowF R rs).length) :
    (decide (((ratesF R rs).getD b (0, 0)).1 = (rngU (rallowF R rs) b m).1) && decide (((ratesF R rs).getD b (0, 0)).2 = (rngU (rallowF R rs) b m).2)) = true := by
  rw [rates_rng hR hV hpos hb hm]; simp
theorem rallow_len1 {R : List (Int × Int)} {rs : List RunD} (hR : MatV R) (hV : RunsV R.length rs) : ∀ i, i < (rallowF R rs).length → ((rallowF R rs).getD i []).length = R.length := fun i hi => by
  have hl := rallow_len hR hV
  have h3 := hR.1
  rw [rallow_at hR hV hi, List.length_take, (allowed_rates hR (k := i) (by omega)).1.1]; omega
theorem ratesF_len (R : List (Int × Int)) (rs : List RunD) : (ratesF R rs).length = R.length := outF_len _ _ _
end Go.Proofs.Ytkkglkdnnfegkaa
