/-
  Materials and runs as data; how they lie in memory; what the program's functions compute of them.
-/
import Derived.Test.YtkkglkdnnfegkaaEnga
import Derived.Test.YtkkglkdnnfegkaaEngb
import Derived.Test.YtkkglkdnnfegkaaProg
import Derived.Shelf.Abstract
set_option linter.unusedSimpArgs false
set_option linter.unusedVariables false
namespace Go.Proofs.Ytkkglkdnnfegkaa
open Go.RowKit Go.Eng
abbrev Seg := Int × Int × Int
structure RunD where
 segs : List Seg
 lo : Int
 hi : Int
def run0 : RunD := ⟨[], 0, 0⟩
def runV (lv : List Value) (rs : List RunD) : List (Value × Int × Int) := (lv.zip rs).map fun p => (p.1, p.2.lo, p.2.hi)
def SegsAt (w : World) (lv : List Value) (rs : List RunD) : Prop :=
 ∀ i, i < rs.length → SlAt w (lv.getD i nilS) 3 (rs.getD i run0).segs.length (trips (rs.getD i run0).segs)
def segsR (o : Bool) (lv : List Value) (rs : List RunD) : Res where
 S := fun b => ∃ i, i < rs.length ∧ slFoot (lv.getD i nilS) (trips (rs.getD i run0).segs) b
 p := fun w => lv.length = rs.length ∧ SegsAt w lv rs
 own := o
 stable := fun w w' h k => ⟨h.1, fun i hi => (sl (lv.getD i nilS) 3 (rs.getD i run0).segs.length (trips (rs.getD i run0).segs)).stable w w' (h.2 i hi) (fun b hb => k b ⟨i, hi, hb⟩)⟩
 lt := fun w b h ⟨i, hi, hb⟩ => (sl (lv.getD i nilS) 3 (rs.getD i run0).segs.length (trips (rs.getD i run0).segs)).lt w b (h.2 i hi) hb
structure RunsAt (w : World) (v : Value) (lv : List Value) (rs : List RunD) : Prop where
 runs : SlAt w v 3 rs.length (vtrips (runV lv rs))
 len : lv.length = rs.length
 segs : SegsAt w lv rs
def runsR (o : Bool) (v : Value) (lv : List Value) (rs : List RunD) : Res where
 S := fun b => slFoot v (vtrips (runV lv rs)) b ∨ (segsR o lv rs).S b
 p := fun w => RunsAt w v lv rs
 own := o
 stable := fun w w' h k => ⟨(sl v 3 rs.length (vtrips (runV lv rs))).stable w w' h.runs (fun b hb => k b (.inl hb)), h.len, ((segsR o lv rs).stable w w' ⟨h.len, h.segs⟩ (fun b hb => k b (.inr hb))).2⟩
 lt := fun w b h hb => by
  rcases hb with hb | hb
  ·exact (sl v 3 rs.length (vtrips (runV lv rs))).lt w b h.runs hb
  ·exact (segsR o lv rs).lt w b ⟨h.len, h.segs⟩ hb
theorem runs_at {w : World} {o : Bool} {v : Value} {lv : List Value} {rs : List RunD} (h : (runsR o v lv rs).p w) : RunsAt w v lv rs := h
theorem RunsAt.step {w w' : World} {v : Value} {lv : List Value} {rs : List RunD} (h : RunsAt w v lv rs) (k : Ext NoB w w') : RunsAt w' v lv rs := res_step (r := runsR false v lv rs) h k
theorem runV_getD {lv : List Value} {rs : List RunD} {i : Nat} (hl : lv.length = rs.length) (h : i < rs.length) : (runV lv rs).getD i (nilS, 0, 0) = (lv.getD i nilS, (rs.getD i run0).lo, (rs.getD i run0).hi) := by
 have h2 : i < lv.length := by omega
 have : (lv.zip rs)[i]? = some (lv[i], rs[i]) := List.getElem?_zip_eq_some.2 ⟨List.getElem?_eq_getElem h2, List.getElem?_eq_getElem h⟩
 simp only [runV, List.getD, List.getElem?_map, this, List.getElem?_eq_getElem h, List.getElem?_eq_getElem h2, Option.map_some, Option.getD_some]
theorem runV_len {lv : List Value} {rs : List RunD} (hl : lv.length = rs.length) : (runV lv rs).length = rs.length := by simp [runV, hl]
theorem runV_snoc {lv : List Value} {rs : List RunD} (hl : lv.length = rs.length) (v : Value) (r : RunD) : runV (lv ++ [v]) (rs ++ [r]) = runV lv rs ++ [(v, r.lo, r.hi)] := by
 unfold runV; rw [List.zip_append hl, List.map_append]; rfl
section
variable {lv : List Value} {rs : List RunD} {i : Nat} (hl : lv.length = rs.length) (h : i < rs.length)
include hl h
theorem runs_at0 : (vtrips (runV lv rs))[i * 3]? = some (lv.getD i nilS) := by
 have := vtrips_at0 (xs := runV lv rs) (i := i) (by rw [runV_len hl]; exact h)
 rwa [runV_getD hl h] at this
theorem runs_at1 : (vtrips (runV lv rs))[i * 3 + 1]? = some (.int .i64 (rs.getD i run0).lo) := by
 have := vtrips_at1 (xs := runV lv rs) (i := i) (by rw [runV_len hl]; exact h)
 rwa [runV_getD hl h] at this
theorem runs_at2 : (vtrips (runV lv rs))[i * 3 + 2]? = some (.int .i64 (rs.getD i run0).hi) := by
 have := vtrips_at2 (xs := runV lv rs) (i := i) (by rw [runV_len hl]; exact h)
 rwa [runV_getD hl h] at this
theorem runs_all : ((vtrips (runV lv rs)).drop (i * 3)).take 3 = [lv.getD i nilS, .int .i64 (rs.getD i run0).lo, .int .i64 (rs.getD i run0).hi] := by
 have := vtrips_all (xs := runV lv rs) (i := i) (by rw [runV_len hl]; exact h)
 rwa [runV_getD hl h] at this
end
theorem ret_int {k : IntKind} {a b : Int} (h : a = b) : Value.int k a = Value.int k b := by rw [h]
theorem ints_at' {l : List Int} {i : Nat} (h : i < l.length) : (ints l)[0 + i * 1]? = some (.int .i64 (l.getD i 0)) := by rw [Nat.zero_add]; exact ints_at h
def uptoB (p : Int × Int) (most : Int) : Bool := decide (0 ≤ p.1) && decide (p.1 ≤ p.2) && decide (p.2 ≤ most)
def rateB (p : Int × Int) : Bool := uptoB p 1000 && decide (p.2 - p.1 ≤ 20)
def segB (n : Nat) (s : Seg) : Bool := (decide (0 ≤ s.1) && decide (s.1 ≤ (n : Int) - 1)) && uptoB s.2 1000000
def runB (n : Nat) (r : RunD) : Bool := uptoB (r.lo, r.hi) 10000000000 && (List.range r.segs.length).all fun i => segB n (r.segs.getD i (0, 0, 0))
def hoursF (rate st : Int) : Int := if st = 0 then 0 else if rate = 0 then -1 else (st + rate - 1).tdiv rate
def sumUpto (l : List Int) : Nat → Int
 | 0 => 0
 | k + 1 => sumUpto l k + l.getD k 0
def sumF (l : List Int) : Int := sumUpto l l.length
def prodUpto (segs : List Seg) (r : List Int) (f : Int × Int → Int) (k : Nat) : List Int := (List.range k).map fun i => r.getD (segs.getD i (0, 0, 0)).1.toNat 0 * f (segs.getD i (0, 0, 0)).2
def atF (segs : List Seg) (r : List Int) (f : Int × Int → Int) : Int := sumF (prodUpto segs r f segs.length)
def stLo (segs : List Seg) (r : List Int) : Int := atF segs r Prod.fst
def stHi (segs : List Seg) (r : List Int) : Int := atF segs r Prod.snd
def allowsB (x : RunD) (r : List Int) : Bool := decide (stLo x.segs r ≤ x.hi) && decide (x.lo ≤ stHi x.segs r)
def allowB (rs : List RunD) (r : List Int) : Bool := (List.range rs.length).all fun i => allowsB (rs.getD i run0) r
theorem map_range_succ {α : Type} (f : Nat → α) (n : Nat) : (List.range (n + 1)).map f = (List.range n).map f ++ [f n] := by rw [List.range_succ, List.map_append]; rfl
theorem prodUpto_succ (segs : List Seg) (r : List Int) (f : Int × Int → Int) (k : Nat) : prodUpto segs r f (k + 1) = prodUpto segs r f k ++ [r.getD (segs.getD k (0, 0, 0)).1.toNat 0 * f (segs.getD k (0, 0, 0)).2] := map_range_succ _ _
theorem prodUpto_len (segs : List Seg) (r : List Int) (f : Int × Int → Int) (k : Nat) : (prodUpto segs r f k).length = k := by simp [prodUpto]
theorem prodUpto_at {segs : List Seg} {r : List Int} {f : Int × Int → Int} {k i : Nat} (h : i < k) : (prodUpto segs r f k).getD i 0 = r.getD (segs.getD i (0, 0, 0)).1.toNat 0 * f (segs.getD i (0, 0, 0)).2 := by simp [prodUpto, List.getD, h]
theorem sumUpto_bd {l : List Int} {B : Int} (h : ∀ i, i < l.length → 0 ≤ l.getD i 0 ∧ l.getD i 0 ≤ B) : ∀ k, k ≤ l.length → 0 ≤ sumUpto l k ∧ sumUpto l k ≤ B * k
 | 0, _ => by simp [sumUpto]
 | k + 1, hk => by
  have ih := sumUpto_bd h k (by omega)
  have h1 := h k (by omega)
  have e : B * ((k + 1 : Nat) : Int) = B * (k : Int) + B := by rw [Int.natCast_add, Int.mul_add]; simp
  simp only [sumUpto]; rw [e]; omega
def RatesV (r : List Int) : Prop := r.length = 3 ∧ ∀ i, 0 ≤ r.getD i 0 ∧ r.getD i 0 ≤ 1000
structure SegV (n : Nat) (s : Seg) : Prop where
 b : 0 ≤ s.1 ∧ s.1 ≤ (n : Int) - 1
 h : 0 ≤ s.2.1 ∧ s.2.1 ≤ s.2.2 ∧ s.2.2 ≤ 1000000
structure RunV (n : Nat) (r : RunD) : Prop where
 seen : 0 ≤ r.lo ∧ r.lo ≤ r.hi ∧ r.hi ≤ 10000000000
 len : r.segs.length ≤ 8
 segs : ∀ i, i < r.segs.length → SegV n (r.segs.getD i (0, 0, 0))
theorem mul_bd {a b : Int} (ha : 0 ≤ a ∧ a ≤ 1000) (hb : 0 ≤ b ∧ b ≤ 1000000) : 0 ≤ a * b ∧ a * b ≤ 1000000000 := by
 constructor
 ·exact Int.mul_nonneg ha.1 hb.1
 ·calc a * b ≤ 1000 * b := Int.mul_le_mul_of_nonneg_right ha.2 hb.1
   _ ≤ 1000 * 1000000 := Int.mul_le_mul_of_nonneg_left hb.2 (by decide)
   _ = 1000000000 := by decide
def lowF (R : List (Int × Int)) (arr : List Int) (band : Nat) : Int := if 0 < band then max (R.getD band (0, 0)).1 (arr.getD (band - 1) 0) else (R.getD band (0, 0)).1
def cntF (R : List (Int × Int)) (arr : List Int) (band : Nat) : Nat := ((R.getD band (0, 0)).2 - lowF R arr band + 1).toNat
def fromF (R : List (Int × Int)) : Nat → List Int → Nat → List (List Int)
 | 0, arr, _ => [arr]
 | m + 1, arr, band => (List.range (cntF R arr band)).flatMap fun (t : Nat) => fromF R m (arr.set band (lowF R arr band + (t : Int))) (band + 1)
def fromUpto (R : List (Int × Int)) (m : Nat) (arr : List Int) (band t : Nat) : List (List Int) := (List.range t).flatMap fun (t : Nat) => fromF R m (arr.set band (lowF R arr band + (t : Int))) (band + 1)
def listsF (R : List (Int × Int)) : List (List Int) := fromF R R.length [0, 0, 0] 0
theorem fromUpto_succ (R : List (Int × Int)) (m : Nat) (arr : List Int) (band t : Nat) : fromUpto R m arr band (t + 1) = fromUpto R m arr band t ++ fromF R m (arr.set band (lowF R arr band + (t : Int))) (band + 1) := by
 unfold fromUpto; rw [List.range_succ, List.flatMap_append]; simp
theorem fromUpto_pre (R : List (Int × Int)) (m : Nat) (arr : List Int) (band t : Nat) : ∀ n, ∃ rest, fromUpto R m arr band (t + n) = fromUpto R m arr band t ++ rest
 | 0 => ⟨[], by simp⟩
 | n + 1 => by
  obtain ⟨rest, h⟩ := fromUpto_pre R m arr band t n
  exact ⟨_, by rw [← Nat.add_assoc, fromUpto_succ, h, List.append_assoc]⟩
theorem fromF_split {R : List (Int × Int)} {m : Nat} {arr : List Int} {band t : Nat} (h : t < cntF R arr band) : ∃ rest, fromF R (m + 1) arr band = fromUpto R m arr band t ++ (fromF R m (arr.set band (lowF R arr band + (t : Int))) (band + 1) ++ rest) := by
 obtain ⟨rest, hr⟩ := fromUpto_pre R m arr band (t + 1) (cntF R arr band - (t + 1))
 refine ⟨rest, ?_⟩
 rw [← List.append_assoc, ← fromUpto_succ, ← hr, show t + 1 + (cntF R arr band - (t + 1)) = cntF R arr band by omega]; rfl
def curA (R : List (Int × Int)) (arr : List Int) (band : Nat) : Nat → List Int
 | 0 => arr
 | t + 1 => arr.set band (lowF R arr band + (t : Int))
theorem curA_len (R : List (Int × Int)) (arr : List Int) (band t : Nat) : (curA R arr band t).length = arr.length := by cases t <;> simp [curA]
theorem curA_set (R : List (Int × Int)) (arr : List Int) (band t : Nat) : (curA R arr band t).set band (lowF R arr band + (t : Int)) = curA R arr band (t + 1) := by cases t <;> simp [curA, List.set_set]
theorem toNat_pred (k : Nat) : ((k : Int) - 1).toNat = k - 1 := by omega
theorem ratesV_set {r : List Int} {b : Nat} {n : Int} (h : RatesV r) (hn : 0 ≤ n ∧ n ≤ 1000) : RatesV (r.set b n) := by
 refine ⟨by rw [List.length_set]; exact h.1, fun i => ?_⟩
 have hi := h.2 i
 by_cases e : i = b
 ·subst e
  by_cases hb : i < r.length
  ·simp [List.getD, hb]; exact hn
  ·simp [List.getD, hb]
 ·simp only [List.getD, List.getElem?_set] at hi ⊢
  rw [if_neg (fun h => e h.symm)]; exact hi
def MatV (R : List (Int × Int)) : Prop := R.length ≤ 3 ∧ ∀ i, 0 ≤ (R.getD i (0, 0)).1 ∧ (R.getD i (0, 0)).1 ≤ (R.getD i (0, 0)).2 ∧ (R.getD i (0, 0)).2 ≤ 1000
theorem lowF_bd {R : List (Int × Int)} {arr : List Int} (hR : MatV R) (ha : RatesV arr) (band : Nat) : 0 ≤ lowF R arr band ∧ lowF R arr band ≤ 1000 := by
 have h1 := hR.2 band
 have h2 := ha.2 (band - 1)
 unfold lowF; split <;> omega
theorem lowF_pos {R : List (Int × Int)} {arr : List Int} {band : Nat} (h : 0 < (band : Int)) : lowF R arr band = max (R.getD band (0, 0)).1 (arr.getD ((band : Int) - 1).toNat 0) := by
 rw [toNat_pred]; unfold lowF; rw [if_pos (by omega)]
theorem lowF_zero {R : List (Int × Int)} {arr : List Int} {band : Nat} (h : ¬ 0 < (band : Int)) : lowF R arr band = (R.getD band (0, 0)).1 := by
 unfold lowF; rw [if_neg (by omega)]
theorem cnt_lt {R : List (Int × Int)} {arr : List Int} {band t : Nat} (h : lowF R arr band + (t : Int) ≤ (R.getD band (0, 0)).2) : t < cntF R arr band := by unfold cntF; omega
theorem cnt_eq {R : List (Int × Int)} {arr : List Int} {band t : Nat} (h : ¬ lowF R arr band + (t : Int) ≤ (R.getD band (0, 0)).2) (h2 : t ≤ cntF R arr band) : t = cntF R arr band := by unfold cntF at *; omega
theorem fromF_end (R : List (Int × Int)) (m : Nat) (arr : List Int) (band : Nat) : fromF R (m + 1) arr band = fromUpto R m arr band (cntF R arr band) := rfl
def allRateB (R : List (Int × Int)) : Bool := (List.range R.length).all fun i => rateB (R.getD i (0, 0))
def checkF (R : List (Int × Int)) : Int := if (1 ≤ R.length ∧ R.length ≤ 3) ∧ allRateB R = true then (if (listsF R).length = 0 then 1 else 0) else 1
theorem matV_of {R : List (Int × Int)} (h : R.length ≤ 3) (ha : allRateB R = true) : MatV R := by
 refine ⟨h, fun i => ?_⟩
 by_cases hi : i < R.length
 ·have := List.all_eq_true.1 ha i (List.mem_range.2 hi)
  simp only [rateB, uptoB, Bool.and_eq_true, decide_eq_true_eq] at this
  omega
 ·have : R.getD i (0, 0) = (0, 0) := by simp [List.getD, List.getElem?_eq_none (Nat.le_of_not_lt hi)]
  rw [this]; decide
theorem fromF_rates {R : List (Int × Int)} (hR : MatV R) : ∀ (m : Nat) (arr : List Int) (band : Nat), RatesV arr → ∀ l ∈ fromF R m arr band, RatesV l
 | 0, arr, band, ha, l, hl => by
  simp only [fromF, List.mem_singleton] at hl; subst hl; exact ha
 | m + 1, arr, band, ha, l, hl => by
  simp only [fromF, List.mem_flatMap, List.mem_range] at hl
  obtain ⟨t, ht, hl⟩ := hl
  have h1 := lowF_bd hR ha band
  have h2 := hR.2 band
  exact fromF_rates hR m _ _ (ratesV_set ha (by unfold cntF at ht; omega)) l hl
theorem zero_rates : RatesV [0, 0, 0] := by
 refine ⟨rfl, fun i => ?_⟩
 match i with
 | 0 => decide
 | 1 => decide
 | 2 => decide
 | i + 3 => simp
theorem lists_rates {R : List (Int × Int)} (hR : MatV R) {k : Nat} (h : k < (listsF R).length) : RatesV ((listsF R).getD k []) := by
 refine fromF_rates hR R.length [0, 0, 0] 0 zero_rates _ ?_
 simp only [List.getD, List.getElem?_eq_getElem h, Option.getD_some]
 exact List.getElem_mem h
theorem lists_len3 {R : List (Int × Int)} (hR : MatV R) {k : Nat} (h : k < (listsF R).length) : 3 = (ints ((listsF R).getD k [])).length := by
 rw [ints, List.length_map, (lists_rates hR h).1]
def KA (rs : List RunD) (k v : Value) : Prop := ∃ l : List Int, l.length = 3 ∧ k = .agg (ints l).toArray ∧ v = .bool (allowB rs l)
theorem KA_keys (rs : List RunD) : ∀ k' v, KA rs k' v → ∃ ys : List Int, ys.length = 3 ∧ k' = .agg (ints ys).toArray := fun _ _ ⟨bs, h1, h2, _⟩ => ⟨bs, h1, h2⟩
theorem KA_val {rs : List RunD} {l : List Int} {u : Value} (h : KA rs (.agg (ints l).toArray) u) : u = .bool (allowB rs l) := by
 obtain ⟨bs, _, h2, h3⟩ := h
 rw [h3, ints_inj h2]
theorem allow_all {rs : List RunD} {r : List Int} (h : ∀ i, i < rs.length → allowsB (rs.getD i run0) r = true) : allowB rs r = true := List.all_eq_true.2 fun i hi => h i (List.mem_range.1 hi)
theorem allow_no {rs : List RunD} {r : List Int} {k : Nat} (hk : k < rs.length) (h : allowsB (rs.getD k run0) r = false) : allowB rs r = false := by
 rw [allowB, List.all_eq_false]
 exact ⟨k, List.mem_range.2 hk, by rw [h]; decide⟩
structure RunsV (n : Nat) (rs : List RunD) : Prop where
 len : rs.length ≤ 6
 runs : ∀ i, i < rs.length → RunV n (rs.getD i run0)
def fUpto {α : Type} (p : α → Bool) (l : List α) (k : Nat) : List α := (l.take k).filter p
theorem fUpto_all {α : Type} (p : α → Bool) (l : List α) : fUpto p l l.length = l.filter p := by rw [fUpto, List.take_length]
theorem fUpto_succ {α : Type} (p : α → Bool) (l : List α) {k : Nat} (h : k < l.length) (d : α) : fUpto p l (k + 1) = fUpto p l k ++ (if p (l.getD k d) = true then [l.getD k d] else []) := by
 unfold fUpto
 rw [List.take_add_one, List.filter_append, List.getElem?_eq_getElem h]
 have : l.getD k d = l[k] := by simp [List.getD, h]
 rw [this]
 simp [List.filter_cons]
theorem fUpto_pre {α : Type} (p : α → Bool) (l : List α) (k : Nat) : l.filter p = fUpto p l k ++ (l.drop k).filter p := by
 rw [fUpto, ← List.filter_append, List.take_append_drop]
theorem fUpto_yes {α : Type} {p : α → Bool} {l : List α} {k : Nat} (h : k < l.length) (d : α) (hp : p (l.getD k d) = true) : (fUpto p l k).length < (l.filter p).length ∧ (l.filter p).getD (fUpto p l k).length d = l.getD k d ∧ (fUpto p l (k + 1)).length = (fUpto p l k).length + 1 := by
 have e : l.filter p = (fUpto p l k ++ [l.getD k d]) ++ (l.drop (k + 1)).filter p := by
  rw [fUpto_pre p l (k + 1), fUpto_succ p l h d, if_pos hp]
 refine ⟨by rw [e]; simp, by rw [e]; simp [List.getD], by rw [fUpto_succ p l h d, if_pos hp]; simp⟩
theorem fUpto_no {α : Type} {p : α → Bool} {l : List α} {k : Nat} (h : k < l.length) (d : α) (hp : p (l.getD k d) = false) : fUpto p l (k + 1) = fUpto p l k := by
 rw [fUpto_succ p l h d, if_neg (by rw [hp]; decide), List.append_nil]
def allowedF (R : List (Int × Int)) (rs : List RunD) : List (List Int) := (listsF R).filter (allowB rs)
theorem allowed_rates {R : List (Int × Int)} {rs : List RunD} (hR : MatV R) {k : Nat} (h : k < (allowedF R rs).length) : RatesV ((allowedF R rs).getD k []) ∧ allowB rs ((allowedF R rs).getD k []) = true := by
 have hm : (allowedF R rs).getD k [] ∈ allowedF R rs := by
  simp only [List.getD, List.getElem?_eq_getElem h, Option.getD_some]; exact List.getElem_mem h
 obtain ⟨h1, h2⟩ := List.mem_filter.1 hm
 exact ⟨fromF_rates hR R.length [0, 0, 0] 0 zero_rates _ h1, h2⟩
theorem allowed_len3 {R : List (Int × Int)} {rs : List RunD} (hR : MatV R) {k : Nat} (h : k < (allowedF R rs).length) : 3 = (ints ((allowedF R rs).getD k [])).length := by
 rw [ints, List.length_map, (allowed_rates hR h).1.1]
def shortB (rs : List RunD) : Bool := (List.range rs.length).all fun i => decide (((rs.getD i run0).segs.length : Int) ≤ 8)
def allRunB (R : List (Int × Int)) (rs : List RunD) : Bool := (List.range rs.length).all fun i => runB R.length (rs.getD i run0)
def enterF (R : List (Int × Int)) (rs : List RunD) : Int :=
 if checkF R ≠ 0 then checkF R else if ¬ (rs.length ≤ 6 ∧ shortB rs = true) then 3 else if ¬ allRunB R rs = true then 1 else 0
theorem short_at {rs : List RunD} (h : shortB rs = true) {i : Nat} (hi : i < rs.length) : (rs.getD i run0).segs.length ≤ 8 := by
 have := of_decide_eq_true (List.all_eq_true.1 h i (List.mem_range.2 hi))
 omega
theorem enter_mat {R : List (Int × Int)} {rs : List RunD} (h : enterF R rs = 0) : checkF R = 0 := by
 unfold enterF at h
 by_cases hc : checkF R = 0
 ·exact hc
 ·rw [if_pos hc] at h; exact absurd h hc
theorem check_mat {R : List (Int × Int)} (h : checkF R = 0) : MatV R ∧ 1 ≤ R.length ∧ 0 < (listsF R).length := by
 unfold checkF at h
 by_cases h1 : (1 ≤ R.length ∧ R.length ≤ 3) ∧ allRateB R = true
 ·rw [if_pos h1] at h
  by_cases h2 : (listsF R).length = 0
  ·rw [if_pos h2] at h; exact absurd h (by decide)
  ·exact ⟨matV_of h1.1.2 h1.2, h1.1.1, by omega⟩
 ·rw [if_neg h1] at h; exact absurd h (by decide)
theorem segV_of {n : Nat} {s : Seg} (h : segB n s = true) : SegV n s := by
 simp only [segB, uptoB, Bool.and_eq_true, decide_eq_true_eq] at h
 exact ⟨by omega, by omega⟩
theorem runV_of {n : Nat} {x : RunD} (h : runB n x = true) (hl : x.segs.length ≤ 8) : RunV n x := by
 simp only [runB, Bool.and_eq_true] at h
 refine ⟨?_, hl, fun i hi => segV_of (List.all_eq_true.1 h.2 i (List.mem_range.2 hi))⟩
 have := h.1
 simp only [uptoB, Bool.and_eq_true, decide_eq_true_eq] at this
 omega
theorem enter_runs {R : List (Int × Int)} {rs : List RunD} (h : enterF R rs = 0) : RunsV R.length rs := by
 have hc := enter_mat h
 unfold enterF at h
 rw [if_neg (by rw [hc]; decide)] at h
 by_cases h1 : rs.length ≤ 6 ∧ shortB rs = true
 ·rw [if_neg (fun hh => hh h1)] at h
  by_cases h2 : allRunB R rs = true
  ·exact ⟨h1.1, fun i hi => runV_of (List.all_eq_true.1 h2 i (List.mem_range.2 hi)) (short_at h1.2 hi)⟩
  ·rw [if_pos h2] at h; exact absurd h (by decide)
 ·rw [if_pos h1] at h; exact absurd h (by decide)
theorem enter_0 {R : List (Int × Int)} {rs : List RunD} (hc : checkF R = 0) (h1 : rs.length ≤ 6) (h2 : shortB rs = true) (h3 : allRunB R rs = true) : enterF R rs = 0 := by
 unfold enterF; rw [if_neg (by rw [hc]; decide), if_neg (fun h => h ⟨h1, h2⟩), if_neg (fun h => h h3)]
theorem enter_1 {R : List (Int × Int)} {rs : List RunD} (hc : checkF R = 0) (h1 : rs.length ≤ 6) (h2 : shortB rs = true) (h3 : allRunB R rs = false) : enterF R rs = 1 := by
 unfold enterF; rw [if_neg (by rw [hc]; decide), if_neg (fun h => h ⟨h1, h2⟩), if_pos (by rw [h3]; decide)]
theorem enter_3a {R : List (Int × Int)} {rs : List RunD} (hc : checkF R = 0) (h1 : ¬ rs.length ≤ 6) : enterF R rs = 3 := by
 unfold enterF; rw [if_neg (by rw [hc]; decide), if_pos (fun h => h1 h.1)]
theorem enter_3b {R : List (Int × Int)} {rs : List RunD} (hc : checkF R = 0) (h2 : shortB rs = false) : enterF R rs = 3 := by
 unfold enterF; rw [if_neg (by rw [hc]; decide), if_pos (fun h => by rw [h2] at h; exact absurd h.2 (by decide))]
theorem enter_c {R : List (Int × Int)} {rs : List RunD} (hc : ¬ checkF R = 0) : enterF R rs = checkF R := by
 unfold enterF; rw [if_pos hc]
theorem callsB {P : Program} {f : FuncId} {args : Array Value} {w : World} {b' : Bool} (k : Calls P f args w (Ret fun v w' => v = .bool b' ∧ Ext NoB w w')) (b : Bool) (h : b' = b) : Calls P f args w (Ret fun v w' => v = .bool b ∧ Ext NoB w w') := by subst h; exact k
def possF (R : List (Int × Int)) (rs : List RunD) : Int := if enterF R rs ≠ 0 then enterF R rs else if (allowedF R rs).length = 0 then 9 else 0
theorem poss_9 {R : List (Int × Int)} {rs : List RunD} (h : enterF R rs = 0) (h2 : (allowedF R rs).length = 0) : possF R rs = 9 := by
 unfold possF; rw [if_neg (fun hh => hh h), if_pos h2]
theorem poss_0 {R : List (Int × Int)} {rs : List RunD} (h : enterF R rs = 0) (h2 : 0 < (allowedF R rs).length) : possF R rs = 0 := by
 unfold possF; rw [if_neg (fun hh => hh h), if_neg (by omega)]
theorem poss_is {R : List (Int × Int)} {rs : List RunD} (h : possF R rs = 0) : enterF R rs = 0 ∧ 0 < (allowedF R rs).length := by
 unfold possF at h
 by_cases he : enterF R rs = 0
 ·rw [if_neg (fun hh => hh he)] at h
  by_cases h2 : (allowedF R rs).length = 0
  ·rw [if_pos h2] at h; exact absurd h (by decide)
  ·exact ⟨he, by omega⟩
 ·rw [if_pos he] at h; exact absurd h he
end Go.Proofs.Ytkkglkdnnfegkaa

namespace Go.Proofs.Ytkkglkdnnfegkaa
open Go.RowKit Go.Shelf Go.Eng
end Go.Proofs.Ytkkglkdnnfegkaa

namespace Go.Proofs.Ytkkglkdnnfegkaa
open Go.RowKit Go.Shelf Go.Eng
theorem fd_42_0 : fldK Try.prog 42 0 = some 0 := by kernel_rfl
theorem ty_3 : tyK Try.prog 3 = some (false, 1) := by kernel_rfl
theorem fd_42_1 : fldK Try.prog 42 1 = some 1 := by kernel_rfl
theorem ty_42 : tyK Try.prog 42 = some (true, 2) := by kernel_rfl
theorem en_86 : ∀ args w, (callFunc 86 args).run Try.prog w = .ok (.enter 86 args) w := enters_of Try.func86 (by kernel_rfl) rfl
theorem ze_42 : (Try.prog.info? 42).bind (·.zero) = some (Value.agg #[(Value.int .i64 0), (Value.int .i64 0)]) := by kernel_rfl
theorem bd_42_0i_1i (x0_0 : Int) (x1_0 : Int) (w : World) : (Instr.build 42 #[(0, (.int .i64 x0_0)), (1, (.int .i64 x1_0))]).run Try.prog w = .ok (.agg #[(.int .i64 x0_0), (.int .i64 x1_0)]) w := by kernel_rfl
theorem fd_48_0 : fldK Try.prog 48 0 = some 0 := by kernel_rfl
theorem fd_48_1 : fldK Try.prog 48 1 = some 1 := by kernel_rfl
theorem un_40 : Try.prog.underlying 40 = some (.slice 3) := by kernel_rfl
theorem within_ok (n lo hi : Int) (w : World) :
  Calls Try.prog 56 #[(Value.int .i64 n), (Value.int .i64 lo), (Value.int .i64 hi)] w (Ret fun v w' => v = .bool (decide (lo ≤ n) && decide (n ≤ hi)) ∧ w' = w) := by
 refine calls_enter Try.func56 rfl fun a0 hA0 => ?_
 replace hA0 : Fr 15 [] [(0, (Value.int .i64 n)), (1, (Value.int .i64 lo)), (2, (Value.int .i64 hi))] a0 := hA0
 have hS0 : Sep NoB w w [] := Sep.start _ _
 refine c_seq ?_
 refine c_region ?_
 refine st hA0 (op_assign rfl (evc _ _)) rfl rfl (by decide) fun a1 hA2 => ?_; clear hA0 a0
 refine wl_nil ?_
 refine then_n ?_
 refine c_seq ?_
 refine c_region ?_
 refine st hA2 (op_move rfl (hA2.ev rfl)) rfl rfl (by decide) fun a3 hA4 => ?_; clear hA2 a1
 refine st hA4 (op_move rfl (hA4.ev rfl)) rfl rfl (by decide) fun a5 hA6 => ?_; clear hA4 a3
 refine st hA6 (op_leq rfl (hA6.ev rfl) (hA6.ev rfl)) rfl rfl (by decide) fun a7 hA8 => ?_; clear hA6 a5
 refine st hA8 (op_move rfl (hA8.ev rfl)) rfl rfl (by decide) fun a9 hA10 => ?_; clear hA8 a7
 by_cases hb11 : lo ≤ n
 ·skip
  rw [decide_eq_true hb11] at hA10
  refine stg hA10 (op_move rfl (hA10.ev rfl)) rfl rfl rfl rfl (by decide) fun a12 hA13 => ?_; clear hA10 a9
  refine stg hA13 (op_move rfl (hA13.ev rfl)) rfl rfl rfl rfl (by decide) fun a14 hA15 => ?_; clear hA13 a12
  refine stg hA15 (op_leq rfl (hA15.ev rfl) (hA15.ev rfl)) rfl rfl rfl rfl (by decide) fun a16 hA17 => ?_; clear hA15 a14
  refine st hA17 (op_pick_t rfl (hA17.ev rfl) (hA17.ev rfl)) rfl rfl (by decide) fun a18 hA19 => ?_; clear hA17 a16
  refine st hA19 (op_assign rfl (hA19.ev rfl)) rfl rfl (by decide) fun a20 hA21 => ?_; clear hA19 a18
  refine wl_nil ?_
  refine then_n ?_
  refine c_ret ?_
  refine fin_run hA21 (.inl rfl) (run_results1 hA21 rfl (.tmp rfl)) ?_
  exact ⟨by simp [*], rfl⟩
 ·skip
  rw [decide_eq_false hb11] at hA10
  refine skp hA10 rfl rfl rfl rfl rfl (by decide) fun a22 hA23 => ?_; clear hA10 a9
  refine skp hA23 rfl rfl rfl rfl rfl (by decide) fun a24 hA25 => ?_; clear hA23 a22
  refine skp hA25 rfl rfl rfl rfl rfl (by decide) fun a26 hA27 => ?_; clear hA25 a24
  refine st hA27 (op_pick_f rfl (hA27.ev rfl) (evc _ _)) rfl rfl (by decide) fun a28 hA29 => ?_; clear hA27 a26
  refine st hA29 (op_assign rfl (hA29.ev rfl)) rfl rfl (by decide) fun a30 hA31 => ?_; clear hA29 a28
  refine wl_nil ?_
  refine then_n ?_
  refine c_ret ?_
  refine fin_run hA31 (.inl rfl) (run_results1 hA31 rfl (.tmp rfl)) ?_
  exact ⟨by simp [*], rfl⟩
theorem In_ok (n lo hi : Int) (w : World) :
  Calls Try.prog 24 #[(Value.int .i64 n), (Value.int .i64 lo), (Value.int .i64 hi)] w (Ret fun v w' => v = .bool (decide (lo ≤ n) && decide (n ≤ hi)) ∧ w' = w) := by
 refine calls_enter Try.func24 rfl fun a0 hA0 => ?_
 replace hA0 : Fr 15 [] [(0, (Value.int .i64 n)), (1, (Value.int .i64 lo)), (2, (Value.int .i64 hi))] a0 := hA0
 have hS0 : Sep NoB w w [] := Sep.start _ _
 refine c_seq ?_
 refine c_region ?_
 refine st hA0 (op_assign rfl (evc _ _)) rfl rfl (by decide) fun a1 hA2 => ?_; clear hA0 a0
 refine wl_nil ?_
 refine then_n ?_
 refine c_seq ?_
 refine c_region ?_
 refine st hA2 (op_move rfl (hA2.ev rfl)) rfl rfl (by decide) fun a3 hA4 => ?_; clear hA2 a1
 refine st hA4 (op_move rfl (hA4.ev rfl)) rfl rfl (by decide) fun a5 hA6 => ?_; clear hA4 a3
 refine st hA6 (op_geq rfl (hA6.ev rfl) (hA6.ev rfl)) rfl rfl (by decide) fun a7 hA8 => ?_; clear hA6 a5
 refine st hA8 (op_move rfl (hA8.ev rfl)) rfl rfl (by decide) fun a9 hA10 => ?_; clear hA8 a7
 by_cases hb11 : lo ≤ n
 ·skip
  rw [decide_eq_true hb11] at hA10
  refine stg hA10 (op_move rfl (hA10.ev rfl)) rfl rfl rfl rfl (by decide) fun a12 hA13 => ?_; clear hA10 a9
  refine stg hA13 (op_move rfl (hA13.ev rfl)) rfl rfl rfl rfl (by decide) fun a14 hA15 => ?_; clear hA13 a12
  refine stg hA15 (op_leq rfl (hA15.ev rfl) (hA15.ev rfl)) rfl rfl rfl rfl (by decide) fun a16 hA17 => ?_; clear hA15 a14
  refine st hA17 (op_pick_t rfl (hA17.ev rfl) (hA17.ev rfl)) rfl rfl (by decide) fun a18 hA19 => ?_; clear hA17 a16
  refine st hA19 (op_assign rfl (hA19.ev rfl)) rfl rfl (by decide) fun a20 hA21 => ?_; clear hA19 a18
  refine wl_nil ?_
  refine then_n ?_
  refine c_ret ?_
  refine fin_run hA21 (.inl rfl) (run_results1 hA21 rfl (.tmp rfl)) ?_
  exact ⟨by simp [*], rfl⟩
 ·skip
  rw [decide_eq_false hb11] at hA10
  refine skp hA10 rfl rfl rfl rfl rfl (by decide) fun a22 hA23 => ?_; clear hA10 a9
  refine skp hA23 rfl rfl rfl rfl rfl (by decide) fun a24 hA25 => ?_; clear hA23 a22
  refine skp hA25 rfl rfl rfl rfl rfl (by decide) fun a26 hA27 => ?_; clear hA25 a24
  refine st hA27 (op_pick_f rfl (hA27.ev rfl) (evc _ _)) rfl rfl (by decide) fun a28 hA29 => ?_; clear hA27 a26
  refine st hA29 (op_assign rfl (hA29.ev rfl)) rfl rfl (by decide) fun a30 hA31 => ?_; clear hA29 a28
  refine wl_nil ?_
  refine then_n ?_
  refine c_ret ?_
  refine fin_run hA31 (.inl rfl) (run_results1 hA31 rfl (.tmp rfl)) ?_
  exact ⟨by simp [*], rfl⟩
theorem low_ok (r1 r2 : Int) (w : World) :
  Calls Try.prog 82 #[(Value.agg #[(Value.int .i64 r1), (Value.int .i64 r2)])] w (Ret fun v w' => v = .int .i64 r1 ∧ Ext NoB w w') := by
 refine calls_enter Try.func82 rfl fun a0 hA0 => ?_
 replace hA0 : Fr 5 [] [(0, (Value.agg #[(Value.int .i64 r1), (Value.int .i64 r2)]))] a0 := hA0
 have hS0 : Sep NoB w w [] := Sep.start _ _
 refine c_seq ?_
 refine c_region ?_
 refine stw hA0 (op_box hS0 rfl (hA0.ev rfl) (cs := [(Value.int .i64 r1), (Value.int .i64 r2)]) rfl) rfl rfl (by decide) ?_
 rintro a1 _ w3 ⟨b4, rfl, hS5⟩ hA2; clear hA0 hS0 a0
 refine st hA2 (op_assign rfl (evc _ _)) rfl rfl (by decide) fun a6 hA7 => ?_; clear hA2 a1
 refine wl_nil ?_
 refine then_n ?_
 refine c_seq ?_
 refine c_region ?_
 refine st hA7 (op_field rfl fd_42_0 (hA7.ev rfl)) rfl rfl (by decide) fun a8 hA9 => ?_; clear hA7 a6
 refine st hA9 (op_load1 rfl ty_3 (hA9.ev rfl) (hS5.bk 0 rfl) rfl) rfl rfl (by decide) fun a10 hA11 => ?_; clear hA9 a8
 refine st hA11 (op_assign rfl (hA11.ev rfl)) rfl rfl (by decide) fun a12 hA13 => ?_; clear hA11 a10
 refine wl_nil ?_
 refine then_n ?_
 refine c_ret ?_
 refine fin_run hA13 (.inl rfl) (run_results1 hA13 rfl (.tmp rfl)) ?_
 exact ⟨rfl, hS5.ext⟩
theorem high_ok (r1 r2 : Int) (w : World) :
  Calls Try.prog 83 #[(Value.agg #[(Value.int .i64 r1), (Value.int .i64 r2)])] w (Ret fun v w' => v = .int .i64 r2 ∧ Ext NoB w w') := by
 refine calls_enter Try.func83 rfl fun a0 hA0 => ?_
 replace hA0 : Fr 5 [] [(0, (Value.agg #[(Value.int .i64 r1), (Value.int .i64 r2)]))] a0 := hA0
 have hS0 : Sep NoB w w [] := Sep.start _ _
 refine c_seq ?_
 refine c_region ?_
 refine stw hA0 (op_box hS0 rfl (hA0.ev rfl) (cs := [(Value.int .i64 r1), (Value.int .i64 r2)]) rfl) rfl rfl (by decide) ?_
 rintro a1 _ w3 ⟨b4, rfl, hS5⟩ hA2; clear hA0 hS0 a0
 refine st hA2 (op_assign rfl (evc _ _)) rfl rfl (by decide) fun a6 hA7 => ?_; clear hA2 a1
 refine wl_nil ?_
 refine then_n ?_
 refine c_seq ?_
 refine c_region ?_
 refine st hA7 (op_field rfl fd_42_1 (hA7.ev rfl)) rfl rfl (by decide) fun a8 hA9 => ?_; clear hA7 a6
 refine st hA9 (op_load1 rfl ty_3 (hA9.ev rfl) (hS5.bk 0 rfl) rfl) rfl rfl (by decide) fun a10 hA11 => ?_; clear hA9 a8
 refine st hA11 (op_assign rfl (hA11.ev rfl)) rfl rfl (by decide) fun a12 hA13 => ?_; clear hA11 a10
 refine wl_nil ?_
 refine then_n ?_
 refine c_ret ?_
 refine fin_run hA13 (.inl rfl) (run_results1 hA13 rfl (.tmp rfl)) ?_
 exact ⟨rfl, hS5.ext⟩
theorem upto_ok (r1 r2 m : Int) (w : World) :
  Calls Try.prog 86 #[(Value.agg #[(Value.int .i64 r1), (Value.int .i64 r2)]), (Value.int .i64 m)] w (Ret fun v w' => v = .bool (uptoB (r1, r2) m) ∧ Ext NoB w w') := by
 refine calls_enter Try.func86 rfl fun a0 hA0 => ?_
 replace hA0 : Fr 21 [] [(0, (Value.agg #[(Value.int .i64 r1), (Value.int .i64 r2)])), (1, (Value.int .i64 m))] a0 := hA0
 have hS0 : Sep NoB w w [] := Sep.start _ _
 refine c_seq ?_
 refine c_region ?_
 refine stw hA0 (op_box hS0 rfl (hA0.ev rfl) (cs := [(Value.int .i64 r1), (Value.int .i64 r2)]) rfl) rfl rfl (by decide) ?_
 rintro a1 _ w3 ⟨b4, rfl, hS5⟩ hA2; clear hA0 hS0 a0
 refine st hA2 (op_assign rfl (evc _ _)) rfl rfl (by decide) fun a6 hA7 => ?_; clear hA2 a1
 refine wl_nil ?_
 refine then_n ?_
 refine c_seq ?_
 refine c_region ?_
 refine st hA7 (op_field rfl fd_42_0 (hA7.ev rfl)) rfl rfl (by decide) fun a8 hA9 => ?_; clear hA7 a6
 refine st hA9 (op_load1 rfl ty_3 (hA9.ev rfl) (hS5.bk 0 rfl) rfl) rfl rfl (by decide) fun a10 hA11 => ?_; clear hA9 a8
 refine st hA11 (op_leq rfl (evc _ _) (hA11.ev rfl)) rfl rfl (by decide) fun a12 hA13 => ?_; clear hA11 a10
 refine st hA13 (op_move rfl (hA13.ev rfl)) rfl rfl (by decide) fun a14 hA15 => ?_; clear hA13 a12
 by_cases hb16 : 0 ≤ r1
 ·skip
  rw [decide_eq_true hb16] at hA15
  refine stg hA15 (op_field rfl fd_42_0 (hA15.ev rfl)) rfl rfl rfl rfl (by decide) fun a17 hA18 => ?_; clear hA15 a14
  refine stg hA18 (op_load1 rfl ty_3 (hA18.ev rfl) (hS5.bk 0 rfl) rfl) rfl rfl rfl rfl (by decide) fun a19 hA20 => ?_; clear hA18 a17
  refine stg hA20 (op_field rfl fd_42_1 (hA20.ev rfl)) rfl rfl rfl rfl (by decide) fun a21 hA22 => ?_; clear hA20 a19
  refine stg hA22 (op_load1 rfl ty_3 (hA22.ev rfl) (hS5.bk 0 rfl) rfl) rfl rfl rfl rfl (by decide) fun a23 hA24 => ?_; clear hA22 a21
  refine stg hA24 (op_leq rfl (hA24.ev rfl) (hA24.ev rfl)) rfl rfl rfl rfl (by decide) fun a25 hA26 => ?_; clear hA24 a23
  refine st hA26 (op_pick_t rfl (hA26.ev rfl) (hA26.ev rfl)) rfl rfl (by decide) fun a27 hA28 => ?_; clear hA26 a25
  refine st hA28 (op_move rfl (hA28.ev rfl)) rfl rfl (by decide) fun a29 hA30 => ?_; clear hA28 a27
  by_cases hb31 : r1 ≤ r2
  ·skip
   rw [decide_eq_true hb31] at hA30
   refine stg hA30 (op_field rfl fd_42_1 (hA30.ev rfl)) rfl rfl rfl rfl (by decide) fun a32 hA33 => ?_; clear hA30 a29
   refine stg hA33 (op_load1 rfl ty_3 (hA33.ev rfl) (hS5.bk 0 rfl) rfl) rfl rfl rfl rfl (by decide) fun a34 hA35 => ?_; clear hA33 a32
   refine stg hA35 (op_move rfl (hA35.ev rfl)) rfl rfl rfl rfl (by decide) fun a36 hA37 => ?_; clear hA35 a34
   refine stg hA37 (op_leq rfl (hA37.ev rfl) (hA37.ev rfl)) rfl rfl rfl rfl (by decide) fun a38 hA39 => ?_; clear hA37 a36
   refine st hA39 (op_pick_t rfl (hA39.ev rfl) (hA39.ev rfl)) rfl rfl (by decide) fun a40 hA41 => ?_; clear hA39 a38
   refine st hA41 (op_assign rfl (hA41.ev rfl)) rfl rfl (by decide) fun a42 hA43 => ?_; clear hA41 a40
   refine wl_nil ?_
   refine then_n ?_
   refine c_ret ?_
   refine fin_run hA43 (.inl rfl) (run_results1 hA43 rfl (.tmp rfl)) ?_
   exact ⟨congrArg Value.bool (by unfold uptoB; simp [*]), hS5.ext⟩
  ·skip
   rw [decide_eq_false hb31] at hA30
   refine skp hA30 rfl rfl rfl rfl rfl (by decide) fun a44 hA45 => ?_; clear hA30 a29
   refine skp hA45 rfl rfl rfl rfl rfl (by decide) fun a46 hA47 => ?_; clear hA45 a44
   refine skp hA47 rfl rfl rfl rfl rfl (by decide) fun a48 hA49 => ?_; clear hA47 a46
   refine skp hA49 rfl rfl rfl rfl rfl (by decide) fun a50 hA51 => ?_; clear hA49 a48
   refine st hA51 (op_pick_f rfl (hA51.ev rfl) (evc _ _)) rfl rfl (by decide) fun a52 hA53 => ?_; clear hA51 a50
   refine st hA53 (op_assign rfl (hA53.ev rfl)) rfl rfl (by decide) fun a54 hA55 => ?_; clear hA53 a52
   refine wl_nil ?_
   refine then_n ?_
   refine c_ret ?_
   refine fin_run hA55 (.inl rfl) (run_results1 hA55 rfl (.tmp rfl)) ?_
   exact ⟨congrArg Value.bool (by unfold uptoB; simp [*]), hS5.ext⟩
 ·skip
  rw [decide_eq_false hb16] at hA15
  refine skp hA15 rfl rfl rfl rfl rfl (by decide) fun a56 hA57 => ?_; clear hA15 a14
  refine skp hA57 rfl rfl rfl rfl rfl (by decide) fun a58 hA59 => ?_; clear hA57 a56
  refine skp hA59 rfl rfl rfl rfl rfl (by decide) fun a60 hA61 => ?_; clear hA59 a58
  refine skp hA61 rfl rfl rfl rfl rfl (by decide) fun a62 hA63 => ?_; clear hA61 a60
  refine skp hA63 rfl rfl rfl rfl rfl (by decide) fun a64 hA65 => ?_; clear hA63 a62
  refine st hA65 (op_pick_f rfl (hA65.ev rfl) (evc _ _)) rfl rfl (by decide) fun a66 hA67 => ?_; clear hA65 a64
  refine st hA67 (op_move rfl (hA67.ev rfl)) rfl rfl (by decide) fun a68 hA69 => ?_; clear hA67 a66
  refine skp hA69 rfl rfl rfl rfl rfl (by decide) fun a70 hA71 => ?_; clear hA69 a68
  refine skp hA71 rfl rfl rfl rfl rfl (by decide) fun a72 hA73 => ?_; clear hA71 a70
  refine skp hA73 rfl rfl rfl rfl rfl (by decide) fun a74 hA75 => ?_; clear hA73 a72
  refine skp hA75 rfl rfl rfl rfl rfl (by decide) fun a76 hA77 => ?_; clear hA75 a74
  refine st hA77 (op_pick_f rfl (hA77.ev rfl) (evc _ _)) rfl rfl (by decide) fun a78 hA79 => ?_; clear hA77 a76
  refine st hA79 (op_assign rfl (hA79.ev rfl)) rfl rfl (by decide) fun a80 hA81 => ?_; clear hA79 a78
  refine wl_nil ?_
  refine then_n ?_
  refine c_ret ?_
  refine fin_run hA81 (.inl rfl) (run_results1 hA81 rfl (.tmp rfl)) ?_
  exact ⟨congrArg Value.bool (by unfold uptoB; simp [*]), hS5.ext⟩
theorem rate_ok (r1 r2 : Int) (w : World) :
  Calls Try.prog 64 #[(Value.agg #[(Value.int .i64 r1), (Value.int .i64 r2)])] w (Ret fun v w' => v = .bool (rateB (r1, r2)) ∧ Ext NoB w w') := by
 refine calls_enter Try.func64 rfl fun a0 hA0 => ?_
 replace hA0 : Fr 13 [] [(0, (Value.agg #[(Value.int .i64 r1), (Value.int .i64 r2)]))] a0 := hA0
 have hS0 : Sep NoB w w [] := Sep.start _ _
 refine c_seq ?_
 refine c_region ?_
 refine stw hA0 (op_box hS0 rfl (hA0.ev rfl) (cs := [(Value.int .i64 r1), (Value.int .i64 r2)]) rfl) rfl rfl (by decide) ?_
 rintro a1 _ w3 ⟨b4, rfl, hS5⟩ hA2; clear hA0 hS0 a0
 refine st hA2 (op_assign rfl (evc _ _)) rfl rfl (by decide) fun a6 hA7 => ?_; clear hA2 a1
 refine wl_nil ?_
 refine then_n ?_
 refine c_seq ?_
 refine c_region ?_
 refine st hA7 (op_loadA rfl ty_42 (hA7.ev rfl) (hS5.bk 0 rfl) (l := [(Value.int .i64 r1), (Value.int .i64 r2)]) rfl rfl) rfl rfl (by decide) fun a8 hA9 => ?_; clear hA7 a6
 refine stw hA9 (op_call rfl en_86 (ev2 (hA9.ev rfl) (evc _ _)) (upto_ok _ _ _ _)) rfl rfl (by decide) ?_
 rintro a10 _ w12 ⟨rfl, hE13⟩ hA11; have hS14 := hS5.step hE13; clear hE13 hA9 hS5 a8
 refine st hA11 (op_move rfl (hA11.ev rfl)) rfl rfl (by decide) fun a15 hA16 => ?_; clear hA11 a10
 rcases Bool.eq_false_or_eq_true ((uptoB (r1, r2) 1000)) with hb17 | hb17
 ·skip
  rw [hb17] at hA16
  have hub : 0 ≤ r1 ∧ r1 ≤ r2 ∧ r2 ≤ 1000 := by have h := ‹uptoB (r1, r2) 1000 = true›; unfold uptoB at h; simp only [Bool.and_eq_true, decide_eq_true_eq] at h; omega
  refine stg hA16 (op_field rfl fd_42_1 (hA16.ev rfl)) rfl rfl rfl rfl (by decide) fun a18 hA19 => ?_; clear hA16 a15
  refine stg hA19 (op_load1 rfl ty_3 (hA19.ev rfl) (hS14.bk 0 rfl) rfl) rfl rfl rfl rfl (by decide) fun a20 hA21 => ?_; clear hA19 a18
  refine stg hA21 (op_field rfl fd_42_0 (hA21.ev rfl)) rfl rfl rfl rfl (by decide) fun a22 hA23 => ?_; clear hA21 a20
  refine stg hA23 (op_load1 rfl ty_3 (hA23.ev rfl) (hS14.bk 0 rfl) rfl) rfl rfl rfl rfl (by decide) fun a24 hA25 => ?_; clear hA23 a22
  refine stg hA25 (op_sub rfl (hA25.ev rfl) (hA25.ev rfl) (by omega) (by omega)) rfl rfl rfl rfl (by decide) fun a26 hA27 => ?_; clear hA25 a24
  refine stg hA27 (op_leq rfl (hA27.ev rfl) (evc _ _)) rfl rfl rfl rfl (by decide) fun a28 hA29 => ?_; clear hA27 a26
  refine st hA29 (op_pick_t rfl (hA29.ev rfl) (hA29.ev rfl)) rfl rfl (by decide) fun a30 hA31 => ?_; clear hA29 a28
  refine st hA31 (op_assign rfl (hA31.ev rfl)) rfl rfl (by decide) fun a32 hA33 => ?_; clear hA31 a30
  refine wl_nil ?_
  refine then_n ?_
  refine c_ret ?_
  refine fin_run hA33 (.inl rfl) (run_results1 hA33 rfl (.tmp rfl)) ?_
  exact ⟨congrArg Value.bool (by unfold rateB; first | (rw [‹uptoB (r1, r2) 1000 = true›, Bool.true_and]) | (rw [‹uptoB (r1, r2) 1000 = false›, Bool.false_and])), hS14.ext⟩
 ·skip
  rw [hb17] at hA16
  refine skp hA16 rfl rfl rfl rfl rfl (by decide) fun a34 hA35 => ?_; clear hA16 a15
  refine skp hA35 rfl rfl rfl rfl rfl (by decide) fun a36 hA37 => ?_; clear hA35 a34
  refine skp hA37 rfl rfl rfl rfl rfl (by decide) fun a38 hA39 => ?_; clear hA37 a36
  refine skp hA39 rfl rfl rfl rfl rfl (by decide) fun a40 hA41 => ?_; clear hA39 a38
  refine skp hA41 rfl rfl rfl rfl rfl (by decide) fun a42 hA43 => ?_; clear hA41 a40
  refine skp hA43 rfl rfl rfl rfl rfl (by decide) fun a44 hA45 => ?_; clear hA43 a42
  refine st hA45 (op_pick_f rfl (hA45.ev rfl) (evc _ _)) rfl rfl (by decide) fun a46 hA47 => ?_; clear hA45 a44
  refine st hA47 (op_assign rfl (hA47.ev rfl)) rfl rfl (by decide) fun a48 hA49 => ?_; clear hA47 a46
  refine wl_nil ?_
  refine then_n ?_
  refine c_ret ?_
  refine fin_run hA49 (.inl rfl) (run_results1 hA49 rfl (.tmp rfl)) ?_
  exact ⟨congrArg Value.bool (by unfold rateB; first | (rw [‹uptoB (r1, r2) 1000 = true›, Bool.true_and]) | (rw [‹uptoB (r1, r2) 1000 = false›, Bool.false_and])), hS14.ext⟩
theorem with_ok (r1 r2 n : Int) (b : Bool) (w : World) :
  Calls Try.prog 55 #[(Value.agg #[(Value.int .i64 r1), (Value.int .i64 r2)]), (Value.int .i64 n), (Value.bool b)] w (Ret fun v w' => v = .agg #[.int .i64 (if b = true then n else min r1 n), .int .i64 (if b = true then n else max r2 n)] ∧ Ext NoB w w') := by
 refine calls_enter Try.func55 rfl fun a0 hA0 => ?_
 replace hA0 : Fr 20 [] [(0, (Value.agg #[(Value.int .i64 r1), (Value.int .i64 r2)])), (1, (Value.int .i64 n)), (2, (Value.bool b))] a0 := hA0
 have hS0 : Sep NoB w w [] := Sep.start _ _
 refine c_seq ?_
 refine c_region ?_
 refine stw hA0 (op_box hS0 rfl (hA0.ev rfl) (cs := [(Value.int .i64 r1), (Value.int .i64 r2)]) rfl) rfl rfl (by decide) ?_
 rintro a1 _ w3 ⟨b4, rfl, hS5⟩ hA2; clear hA0 hS0 a0
 refine stw hA2 (op_alloc hS5 rfl ze_42 (cs := [(Value.int .i64 0), (Value.int .i64 0)]) rfl) rfl rfl (by decide) ?_
 rintro a6 _ w8 ⟨b9, rfl, hS10⟩ hA7; clear hA2 hS5 a1
 refine wl_nil ?_
 refine then_n ?_
 refine c_seq ?_
 refine c_seq ?_
 refine c_region ?_
 refine st hA7 (op_move rfl (hA7.ev rfl)) rfl rfl (by decide) fun a11 hA12 => ?_; clear hA7 a6
 refine wl_nil ?_
 refine then_n ?_
 rcases Bool.eq_false_or_eq_true (b) with hb13 | hb13
 ·skip
  rw [hb13] at hA12
  refine c_true hA12 rfl ?_
  refine c_seq ?_
  refine c_region ?_
  refine st hA12 (op_move rfl (hA12.ev rfl)) rfl rfl (by decide) fun a14 hA15 => ?_; clear hA12 a11
  refine st hA15 (op_move rfl (hA15.ev rfl)) rfl rfl (by decide) fun a16 hA17 => ?_; clear hA15 a14
  refine st hA17 (op_build rfl (pv2 (hA17.ev rfl) (hA17.ev rfl)) (bd_42_0i_1i _ _)) rfl rfl (by decide) fun a18 hA19 => ?_; clear hA17 a16
  refine sts hA19 (op_store hS10 rfl ty_42 (hA19.ev rfl) (hA19.ev rfl) (i := 0) rfl (vs := [(Value.int .i64 n), (Value.int .i64 n)]) rfl rfl rfl (Nat.le_of_ble_eq_true rfl)) rfl rfl ?_
  intro _ w20 hS21 hA22; clear hA19
  have hS23 : Sep NoB w w20 [(blk b9 42 [(Value.int .i64 n), (Value.int .i64 n)]), (blk b4 42 [(Value.int .i64 r1), (Value.int .i64 r2)])] := hS21; clear hS21 hS10
  refine wl_nil ?_
  refine then_n ?_
  refine c_ret ?_
  refine then_ret ?_
  refine fin_run hA22 (.inl rfl) (run_results1 hA22 rfl (.cellA rfl ty_42 (hS23.bk 0 rfl) (l := [(Value.int .i64 n), (Value.int .i64 n)]) rfl rfl)) ?_
  exact ⟨by first | (rw [if_pos (by assumption), if_pos (by assumption)]) | (rw [if_neg (by simp [*]), if_neg (by simp [*])]), hS23.ext⟩
 ·skip
  rw [hb13] at hA12
  refine c_false hA12 rfl ?_
  refine c_skip ?_
  refine then_n ?_
  refine c_seq ?_
  refine c_region ?_
  refine st hA12 (op_field rfl fd_42_0 (hA12.ev rfl)) rfl rfl (by decide) fun a24 hA25 => ?_; clear hA12 a11
  refine st hA25 (op_load1 rfl ty_3 (hA25.ev rfl) (hS10.bk 1 rfl) rfl) rfl rfl (by decide) fun a26 hA27 => ?_; clear hA25 a24
  refine st hA27 (op_move rfl (hA27.ev rfl)) rfl rfl (by decide) fun a28 hA29 => ?_; clear hA27 a26
  refine st hA29 (op_min rfl (hA29.ev rfl) (hA29.ev rfl)) rfl rfl (by decide) fun a30 hA31 => ?_; clear hA29 a28
  refine st hA31 (op_field rfl fd_42_1 (hA31.ev rfl)) rfl rfl (by decide) fun a32 hA33 => ?_; clear hA31 a30
  refine st hA33 (op_load1 rfl ty_3 (hA33.ev rfl) (hS10.bk 1 rfl) rfl) rfl rfl (by decide) fun a34 hA35 => ?_; clear hA33 a32
  refine st hA35 (op_move rfl (hA35.ev rfl)) rfl rfl (by decide) fun a36 hA37 => ?_; clear hA35 a34
  refine st hA37 (op_max rfl (hA37.ev rfl) (hA37.ev rfl)) rfl rfl (by decide) fun a38 hA39 => ?_; clear hA37 a36
  refine st hA39 (op_build rfl (pv2 (hA39.ev rfl) (hA39.ev rfl)) (bd_42_0i_1i _ _)) rfl rfl (by decide) fun a40 hA41 => ?_; clear hA39 a38
  refine sts hA41 (op_store hS10 rfl ty_42 (hA41.ev rfl) (hA41.ev rfl) (i := 0) rfl (vs := [(Value.int .i64 (min r1 n)), (Value.int .i64 (max r2 n))]) rfl rfl rfl (Nat.le_of_ble_eq_true rfl)) rfl rfl ?_
  intro _ w42 hS43 hA44; clear hA41
  have hS45 : Sep NoB w w42 [(blk b9 42 [(Value.int .i64 (min r1 n)), (Value.int .i64 (max r2 n))]), (blk b4 42 [(Value.int .i64 r1), (Value.int .i64 r2)])] := hS43; clear hS43 hS10
  refine wl_nil ?_
  refine then_n ?_
  refine c_ret ?_
  refine fin_run hA44 (.inl rfl) (run_results1 hA44 rfl (.cellA rfl ty_42 (hS45.bk 0 rfl) (l := [(Value.int .i64 (min r1 n)), (Value.int .i64 (max r2 n))]) rfl rfl)) ?_
  exact ⟨by first | (rw [if_pos (by assumption), if_pos (by assumption)]) | (rw [if_neg (by simp [*]), if_neg (by simp [*])]), hS45.ext⟩
theorem hours_ok (r s0 : Int) (w : World) (h1 : 0 ≤ r ∧ r ≤ 1000000) (h2 : 0 ≤ s0 ∧ s0 ≤ 20000000000) :
  Calls Try.prog 57 #[(Value.int .i64 r), (Value.int .i64 s0)] w (Ret fun v w' => v = .int .i64 (hoursF r s0) ∧ Ext NoB w w') := by
 refine calls_enter Try.func57 rfl fun a0 hA0 => ?_
 replace hA0 : Fr 17 [] [(0, (Value.int .i64 r)), (1, (Value.int .i64 s0))] a0 := hA0
 have hS0 : Sep NoB w w [] := Sep.start _ _
 refine c_seq ?_
 refine c_region ?_
 refine st hA0 (op_assign rfl (evc _ _)) rfl rfl (by decide) fun a1 hA2 => ?_; clear hA0 a0
 refine wl_nil ?_
 refine then_n ?_
 refine c_seq ?_
 refine c_block ?_
 refine c_seq ?_
 refine c_region ?_
 refine st hA2 (op_move rfl (hA2.ev rfl)) rfl rfl (by decide) fun a3 hA4 => ?_; clear hA2 a1
 refine st hA4 (op_eql rfl (hA4.ev rfl) (evc _ _)) rfl rfl (by decide) fun a5 hA6 => ?_; clear hA4 a3
 refine st hA6 (op_assign rfl (hA6.ev rfl)) rfl rfl (by decide) fun a7 hA8 => ?_; clear hA6 a5
 refine wl_nil ?_
 refine then_n ?_
 by_cases hb9 : s0 = 0
 ·skip
  rw [decide_eq_true hb9] at hA8
  refine c_true hA8 rfl ?_
  refine c_seq ?_
  have hA10 := hA8.as [] rfl; clear hA8
  refine c_region ?_
  refine st hA10 (op_assign rfl (evc _ _)) rfl rfl (by decide) fun a11 hA12 => ?_; clear hA10 a7
  refine wl_nil ?_
  refine then_n ?_
  refine c_ret ?_
  refine blk_ret ?_
  refine then_ret ?_
  refine fin_run hA12 (.inl rfl) (run_results1 hA12 rfl (.tmp rfl)) ?_
  exact ⟨ret_int (by unfold hoursF; first | rw [if_pos (by omega)] | rw [if_neg (by omega), if_pos (by omega)] | rw [if_neg (by omega), if_neg (by omega)]), hS0.ext⟩
 ·skip
  rw [decide_eq_false hb9] at hA8
  refine c_false hA8 rfl ?_
  refine c_seq ?_
  refine c_region ?_
  refine st hA8 (op_move rfl (hA8.ev rfl)) rfl rfl (by decide) fun a13 hA14 => ?_; clear hA8 a7
  refine st hA14 (op_eql rfl (hA14.ev rfl) (evc _ _)) rfl rfl (by decide) fun a15 hA16 => ?_; clear hA14 a13
  refine st hA16 (op_assign rfl (hA16.ev rfl)) rfl rfl (by decide) fun a17 hA18 => ?_; clear hA16 a15
  refine wl_nil ?_
  refine then_n ?_
  by_cases hb19 : r = 0
  ·skip
   rw [decide_eq_true hb19] at hA18
   refine c_true hA18 rfl ?_
   refine c_seq ?_
   have hA20 := hA18.as [] rfl; clear hA18
   refine c_region ?_
   refine st hA20 (op_assign rfl (evc _ _)) rfl rfl (by decide) fun a21 hA22 => ?_; clear hA20 a17
   refine wl_nil ?_
   refine then_n ?_
   refine c_ret ?_
   refine blk_ret ?_
   refine then_ret ?_
   refine fin_run hA22 (.inl rfl) (run_results1 hA22 rfl (.tmp rfl)) ?_
   exact ⟨ret_int (by unfold hoursF; first | rw [if_pos (by omega)] | rw [if_neg (by omega), if_pos (by omega)] | rw [if_neg (by omega), if_neg (by omega)]), hS0.ext⟩
  ·skip
   rw [decide_eq_false hb19] at hA18
   refine c_false hA18 rfl ?_
   refine c_skip ?_
   refine blk_n ?_
   refine then_n ?_
   refine c_seq ?_
   have hA23 := hA18.as [(0, (Value.int .i64 r)), (1, (Value.int .i64 s0))] rfl; clear hA18
   refine c_region ?_
   refine st hA23 (op_move rfl (hA23.ev rfl)) rfl rfl (by decide) fun a24 hA25 => ?_; clear hA23 a17
   refine st hA25 (op_move rfl (hA25.ev rfl)) rfl rfl (by decide) fun a26 hA27 => ?_; clear hA25 a24
   refine st hA27 (op_add rfl (hA27.ev rfl) (hA27.ev rfl) (by first | omega | (have h9 := Int.tdiv_le_self r (show 0 ≤ (s0 + r) - 1 by omega); have h8 := Int.tdiv_nonneg (show 0 ≤ (s0 + r) - 1 by omega) (show 0 ≤ r by omega); omega)) (by first | omega | (have h9 := Int.tdiv_le_self r (show 0 ≤ (s0 + r) - 1 by omega); have h8 := Int.tdiv_nonneg (show 0 ≤ (s0 + r) - 1 by omega) (show 0 ≤ r by omega); omega))) rfl rfl (by decide) fun a28 hA29 => ?_; clear hA27 a26
   refine st hA29 (op_sub rfl (hA29.ev rfl) (evc _ _) (by first | omega | (have h9 := Int.tdiv_le_self r (show 0 ≤ (s0 + r) - 1 by omega); have h8 := Int.tdiv_nonneg (show 0 ≤ (s0 + r) - 1 by omega) (show 0 ≤ r by omega); omega)) (by first | omega | (have h9 := Int.tdiv_le_self r (show 0 ≤ (s0 + r) - 1 by omega); have h8 := Int.tdiv_nonneg (show 0 ≤ (s0 + r) - 1 by omega) (show 0 ≤ r by omega); omega))) rfl rfl (by decide) fun a30 hA31 => ?_; clear hA29 a28
   refine st hA31 (op_move rfl (hA31.ev rfl)) rfl rfl (by decide) fun a32 hA33 => ?_; clear hA31 a30
   refine st hA33 (op_quo rfl (hA33.ev rfl) (hA33.ev rfl) (by first | omega | (have h9 := Int.tdiv_le_self r (show 0 ≤ (s0 + r) - 1 by omega); have h8 := Int.tdiv_nonneg (show 0 ≤ (s0 + r) - 1 by omega) (show 0 ≤ r by omega); omega)) (by first | omega | (have h9 := Int.tdiv_le_self r (show 0 ≤ (s0 + r) - 1 by omega); have h8 := Int.tdiv_nonneg (show 0 ≤ (s0 + r) - 1 by omega) (show 0 ≤ r by omega); omega)) (by first | omega | (have h9 := Int.tdiv_le_self r (show 0 ≤ (s0 + r) - 1 by omega); have h8 := Int.tdiv_nonneg (show 0 ≤ (s0 + r) - 1 by omega) (show 0 ≤ r by omega); omega))) rfl rfl (by decide) fun a34 hA35 => ?_; clear hA33 a32
   refine st hA35 (op_assign rfl (hA35.ev rfl)) rfl rfl (by decide) fun a36 hA37 => ?_; clear hA35 a34
   refine wl_nil ?_
   refine then_n ?_
   refine c_ret ?_
   refine fin_run hA37 (.inl rfl) (run_results1 hA37 rfl (.tmp rfl)) ?_
   exact ⟨ret_int (by unfold hoursF; first | rw [if_pos (by omega)] | rw [if_neg (by omega), if_pos (by omega)] | rw [if_neg (by omega), if_neg (by omega)]), hS0.ext⟩
theorem to_ok (r1 r2 : Int) (w : World) :
  Calls Try.prog 25 #[(Value.agg #[(Value.int .i64 r1), (Value.int .i64 r2)])] w (Ret fun v w' => v = .agg #[.int .i64 r1, .int .i64 r2] ∧ Ext NoB w w') := by
 refine calls_enter Try.func25 rfl fun a0 hA0 => ?_
 replace hA0 : Fr 8 [] [(0, (Value.agg #[(Value.int .i64 r1), (Value.int .i64 r2)]))] a0 := hA0
 have hS0 : Sep NoB w w [] := Sep.start _ _
 refine c_seq ?_
 refine c_region ?_
 refine stw hA0 (op_box hS0 rfl (hA0.ev rfl) (cs := [(Value.int .i64 r1), (Value.int .i64 r2)]) rfl) rfl rfl (by decide) ?_
 rintro a1 _ w3 ⟨b4, rfl, hS5⟩ hA2; clear hA0 hS0 a0
 refine stw hA2 (op_alloc hS5 rfl ze_42 (cs := [(Value.int .i64 0), (Value.int .i64 0)]) rfl) rfl rfl (by decide) ?_
 rintro a6 _ w8 ⟨b9, rfl, hS10⟩ hA7; clear hA2 hS5 a1
 refine wl_nil ?_
 refine then_n ?_
 refine c_seq ?_
 refine c_region ?_
 refine st hA7 (op_field rfl fd_48_0 (hA7.ev rfl)) rfl rfl (by decide) fun a11 hA12 => ?_; clear hA7 a6
 refine st hA12 (op_load1 rfl ty_3 (hA12.ev rfl) (hS10.bk 1 rfl) rfl) rfl rfl (by decide) fun a13 hA14 => ?_; clear hA12 a11
 refine st hA14 (op_field rfl fd_48_1 (hA14.ev rfl)) rfl rfl (by decide) fun a15 hA16 => ?_; clear hA14 a13
 refine st hA16 (op_load1 rfl ty_3 (hA16.ev rfl) (hS10.bk 1 rfl) rfl) rfl rfl (by decide) fun a17 hA18 => ?_; clear hA16 a15
 refine st hA18 (op_build rfl (pv2 (hA18.ev rfl) (hA18.ev rfl)) (bd_42_0i_1i _ _)) rfl rfl (by decide) fun a19 hA20 => ?_; clear hA18 a17
 refine sts hA20 (op_store hS10 rfl ty_42 (hA20.ev rfl) (hA20.ev rfl) (i := 0) rfl (vs := [(Value.int .i64 r1), (Value.int .i64 r2)]) rfl rfl rfl (Nat.le_of_ble_eq_true rfl)) rfl rfl ?_
 intro _ w21 hS22 hA23; clear hA20
 have hS24 : Sep NoB w w21 [(blk b9 42 [(Value.int .i64 r1), (Value.int .i64 r2)]), (blk b4 48 [(Value.int .i64 r1), (Value.int .i64 r2)])] := hS22; clear hS22 hS10
 refine wl_nil ?_
 refine then_n ?_
 refine c_ret ?_
 refine fin_run hA23 (.inl rfl) (run_results1 hA23 rfl (.cellA rfl ty_42 (hS24.bk 0 rfl) (l := [(Value.int .i64 r1), (Value.int .i64 r2)]) rfl rfl)) ?_
 exact ⟨rfl, hS24.ext⟩
theorem between_ok (a b : Int) (w : World) :
  Calls Try.prog 31 #[(Value.int .i64 a), (Value.int .i64 b)] w (Ret fun v w' => v = .agg #[.int .i64 a, .int .i64 b] ∧ Ext NoB w w') := by
 refine calls_enter Try.func31 rfl fun a0 hA0 => ?_
 replace hA0 : Fr 8 [] [(0, (Value.int .i64 a)), (1, (Value.int .i64 b))] a0 := hA0
 have hS0 : Sep NoB w w [] := Sep.start _ _
 refine c_seq ?_
 refine c_region ?_
 refine stw hA0 (op_alloc hS0 rfl ze_42 (cs := [(Value.int .i64 0), (Value.int .i64 0)]) rfl) rfl rfl (by decide) ?_
 rintro a1 _ w3 ⟨b4, rfl, hS5⟩ hA2; clear hA0 hS0 a0
 refine wl_nil ?_
 refine then_n ?_
 refine c_seq ?_
 refine c_region ?_
 refine st hA2 (op_move rfl (hA2.ev rfl)) rfl rfl (by decide) fun a6 hA7 => ?_; clear hA2 a1
 refine st hA7 (op_move rfl (hA7.ev rfl)) rfl rfl (by decide) fun a8 hA9 => ?_; clear hA7 a6
 refine st hA9 (op_build rfl (pv2 (hA9.ev rfl) (hA9.ev rfl)) (bd_42_0i_1i _ _)) rfl rfl (by decide) fun a10 hA11 => ?_; clear hA9 a8
 refine sts hA11 (op_store hS5 rfl ty_42 (hA11.ev rfl) (hA11.ev rfl) (i := 0) rfl (vs := [(Value.int .i64 a), (Value.int .i64 b)]) rfl rfl rfl (Nat.le_of_ble_eq_true rfl)) rfl rfl ?_
 intro _ w12 hS13 hA14; clear hA11
 have hS15 : Sep NoB w w12 [(blk b4 42 [(Value.int .i64 a), (Value.int .i64 b)])] := hS13; clear hS13 hS5
 refine wl_nil ?_
 refine then_n ?_
 refine c_ret ?_
 refine fin_run hA14 (.inl rfl) (run_results1 hA14 rfl (.cellA rfl ty_42 (hS15.bk 0 rfl) (l := [(Value.int .i64 a), (Value.int .i64 b)]) rfl rfl)) ?_
 exact ⟨rfl, hS15.ext⟩
theorem sum_ok (xs : List Int) (v : Value) (w : World) (hv : SlAt w v 1 xs.length (ints xs)) (hlen : xs.length ≤ 1000) (hb : ∀ i, i < xs.length → 0 ≤ xs.getD i 0 ∧ xs.getD i 0 ≤ 1000000000) :
  Calls Try.prog 98 #[v] w (Ret fun v w' => v = .int .i64 (sumF xs) ∧ Ext NoB w w') := by
 refine calls_enter Try.func98 rfl fun a0 hA0 => ?_
 replace hA0 : Fr 16 [] [(0, v)] a0 := hA0
 have hS0 : Sep NoB w w [(sl v 1 xs.length (ints xs))] := sep_ro ⟨rfl, hv, trivial⟩
 refine c_seq ?_
 refine c_region ?_
 refine st hA0 (op_assign rfl (evc _ _)) rfl rfl (by decide) fun a1 hA2 => ?_; clear hA0 a0
 refine wl_nil ?_
 refine then_n ?_
 refine c_seq ?_
 refine c_seq ?_
 refine c_region ?_
 refine st hA2 (op_move rfl (hA2.ev rfl)) rfl rfl (by decide) fun a3 hA4 => ?_; clear hA2 a1
 refine st hA4 (op_lenS rfl un_40 (hA4.ev rfl) (hS0.ok 0 _ rfl)) rfl rfl (by decide) fun a5 hA6 => ?_; clear hA4 a3
 refine st hA6 (op_move rfl (evc _ _)) rfl rfl (by decide) fun a7 hA8 => ?_; clear hA6 a5
 refine wl_nil ?_
 refine then_n ?_
 refine c_block ?_
 have hA9 := hA8.as [(7, (Value.int .i64 0)), (6, (Value.int .i64 (xs.length : Int))), (5, v), (2, (Value.int .i64 0))] rfl; clear hA8
 refine c_loop (G := Nat) (fun (k : Nat) a_ w_ => Fr 16 [] [(7, (Value.int .i64 (k : Int))), (6, (Value.int .i64 (xs.length : Int))), (5, v), (2, (Value.int .i64 (sumUpto xs k)))] a_ ∧ Sep NoB w w_ [(sl v 1 xs.length (ints xs))] ∧ (k ≤ xs.length)) (fun k => xs.length - k) 0 ⟨hA9.as _ rfl, hS0, by omega⟩ ?_
 clear hA9 hS0 a7
 rintro k a10 w12 ⟨hA11, hS13, hk⟩
 have hsb := sumUpto_bd hb k hk
 refine c_seq ?_
 refine c_region ?_
 refine st hA11 (op_lss rfl (hA11.ev rfl) (hA11.ev rfl)) rfl rfl (by decide) fun a14 hA15 => ?_; clear hA11 a10
 refine wl_nil ?_
 refine then_n ?_
 refine c_seq ?_
 by_cases hb16 : (k : Int) < (xs.length : Int)
 ·skip
  rw [decide_eq_true hb16] at hA15
  have hbk := hb k (by omega)
  refine c_true hA15 rfl ?_
  refine c_skip ?_
  refine then_n ?_
  refine c_seq ?_
  refine c_block ?_
  refine c_seq ?_
  refine c_region ?_
  refine st hA15 (op_indexS rfl un_40 ty_3 (hA15.ev rfl) (i := k) (hA15.ev rfl) (hS13.ok 0 _ rfl) (by decide) (by omega)) rfl rfl (by decide) fun a17 hA18 => ?_; clear hA15 a14
  refine st hA18 (op_load1E rfl ty_3 (hA18.ev rfl) (hS13.ok 0 _ rfl) (ints_at (by omega))) rfl rfl (by decide) fun a19 hA20 => ?_; clear hA18 a17
  refine st hA20 (op_assign rfl (hA20.ev rfl)) rfl rfl (by decide) fun a21 hA22 => ?_; clear hA20 a19
  refine wl_nil ?_
  refine then_n ?_
  refine c_region ?_
  refine st hA22 (op_move rfl (hA22.ev rfl)) rfl rfl (by decide) fun a23 hA24 => ?_; clear hA22 a21
  refine st hA24 (op_move rfl (hA24.ev rfl)) rfl rfl (by decide) fun a25 hA26 => ?_; clear hA24 a23
  refine st hA26 (op_add rfl (hA26.ev rfl) (hA26.ev rfl) (by omega) (by omega)) rfl rfl (by decide) fun a27 hA28 => ?_; clear hA26 a25
  refine st hA28 (op_assign rfl (hA28.ev rfl)) rfl rfl (by decide) fun a29 hA30 => ?_; clear hA28 a27
  refine wl_nil ?_
  refine blk_n ?_
  refine then_n ?_
  have hA31 := hA30.as [(2, (Value.int .i64 ((sumUpto xs k) + (xs.getD k 0)))), (7, (Value.int .i64 (k : Int))), (6, (Value.int .i64 (xs.length : Int))), (5, v)] rfl; clear hA30
  refine c_region ?_
  refine st hA31 (op_add rfl (hA31.ev rfl) (evc _ _) (by omega) (by omega)) rfl rfl (by decide) fun a32 hA33 => ?_; clear hA31 a29
  refine st hA33 (op_move rfl (hA33.ev rfl)) rfl rfl (by decide) fun a34 hA35 => ?_; clear hA33 a32
  refine wl_nil ?_
  exact then_n ⟨k + 1, ⟨hA35.as _ rfl, hS13, by omega⟩, by omega⟩
 ·skip
  rw [decide_eq_false hb16] at hA15
  refine c_false hA15 rfl ?_
  refine c_exit ?_
  refine then_exit ?_
  refine then_exit ?_
  refine blk_hit ?_
  refine then_n ?_
  refine c_seq ?_
  refine c_region ?_
  refine st hA15 (op_move rfl (hA15.ev rfl)) rfl rfl (by decide) fun a36 hA37 => ?_; clear hA15 a14
  refine st hA37 (op_assign rfl (hA37.ev rfl)) rfl rfl (by decide) fun a38 hA39 => ?_; clear hA37 a36
  refine wl_nil ?_
  refine then_n ?_
  refine c_ret ?_
  refine fin_run hA39 (.inl rfl) (run_results1 hA39 rfl (.tmp rfl)) ?_
  exact ⟨ret_int (by unfold sumF; rw [show k = xs.length by omega]), hS13.ext⟩
end Go.Proofs.Ytkkglkdnnfegkaa

namespace Go.Proofs.Ytkkglkdnnfegkaa
open Go.RowKit Go.Shelf Go.Eng
theorem un_28 : Try.prog.underlying 28 = some (.slice 42) := by kernel_rfl
theorem en_99 : ∀ args w, (callFunc 99 args).run Try.prog w = .ok (.enter 99 args) w := enters_of Try.func99 (by kernel_rfl) rfl
theorem ty_112 : tyK Try.prog 112 = some (false, 1) := by kernel_rfl
theorem en_85 : ∀ args w, (callFunc 85 args).run Try.prog w = .ok (.enter 85 args) w := enters_of Try.func85 (by kernel_rfl) rfl
theorem en_84 : ∀ args w, (callFunc 84 args).run Try.prog w = .ok (.enter 84 args) w := enters_of Try.func84 (by kernel_rfl) rfl
theorem un_58 : Try.prog.underlying 58 = some (.slice 67) := by kernel_rfl
theorem ty_67 : tyK Try.prog 67 = some (true, 3) := by kernel_rfl
theorem en_103 : ∀ args w, (callFunc 103 args).run Try.prog w = .ok (.enter 103 args) w := enters_of Try.func103 (by kernel_rfl) rfl
theorem ty_128 : tyK Try.prog 128 = some (false, 1) := by kernel_rfl
theorem en_97 : ∀ args w, (callFunc 97 args).run Try.prog w = .ok (.enter 97 args) w := enters_of Try.func97 (by kernel_rfl) rfl
theorem en_96 : ∀ args w, (callFunc 96 args).run Try.prog w = .ok (.enter 96 args) w := enters_of Try.func96 (by kernel_rfl) rfl
theorem un_35 : Try.prog.underlying 35 = some (.slice 96) := by kernel_rfl
theorem ty_96 : tyK Try.prog 96 = some (true, 3) := by kernel_rfl
theorem en_104 : ∀ args w, (callFunc 104 args).run Try.prog w = .ok (.enter 104 args) w := enters_of Try.func104 (by kernel_rfl) rfl
theorem ty_136 : tyK Try.prog 136 = some (false, 1) := by kernel_rfl
theorem en_101 : ∀ args w, (callFunc 101 args).run Try.prog w = .ok (.enter 101 args) w := enters_of Try.func101 (by kernel_rfl) rfl
theorem en_100 : ∀ args w, (callFunc 100 args).run Try.prog w = .ok (.enter 100 args) w := enters_of Try.func100 (by kernel_rfl) rfl
theorem en_102 : ∀ args w, (callFunc 102 args).run Try.prog w = .ok (.enter 102 args) w := enters_of Try.func102 (by kernel_rfl) rfl
theorem ty_124 : tyK Try.prog 124 = some (false, 1) := by kernel_rfl
theorem en_94 : ∀ args w, (callFunc 94 args).run Try.prog w = .ok (.enter 94 args) w := enters_of Try.func94 (by kernel_rfl) rfl
theorem en_93 : ∀ args w, (callFunc 93 args).run Try.prog w = .ok (.enter 93 args) w := enters_of Try.func93 (by kernel_rfl) rfl
theorem un_38 : Try.prog.underlying 38 = some (.slice 40) := by kernel_rfl
theorem ty_40 : tyK Try.prog 40 = some (false, 1) := by kernel_rfl
theorem en_92 : ∀ args w, (callFunc 92 args).run Try.prog w = .ok (.enter 92 args) w := enters_of Try.func92 (by kernel_rfl) rfl
theorem indexf_rng (xs : List (Int × Int)) (v : Value) (fid : Nat) (fs cs : Array Value) (p : Nat → Bool) (w : World) (hv : SlAt w v 2 xs.length (pairs xs)) (hlen : xs.length ≤ 1000000) (hf : Asks Try.prog w fid fs cs xs.length (fun i => (Value.agg #[(Value.int .i64 ((xs.getD i (0, 0)).1)), (Value.int .i64 ((xs.getD i (0, 0)).2))])) p) :
  Calls Try.prog 99 #[v, (Value.func (.func fid) fs cs)] w (Ret fun v w' => v = .int .i64 (fidx p xs.length) ∧ Ext NoB w w') := by
 refine calls_enter Try.func99 rfl fun a0 hA0 => ?_
 replace hA0 : Fr 19 [] [(0, v), (1, (Value.func (.func fid) fs cs))] a0 := hA0
 have hS0 : Sep NoB w w [(sl v 2 xs.length (pairs xs))] := sep_ro ⟨rfl, hv, trivial⟩
 refine c_seq ?_
 refine c_region ?_
 refine st hA0 (op_assign rfl (evc _ _)) rfl rfl (by decide) fun a1 hA2 => ?_; clear hA0 a0
 refine wl_nil ?_
 refine then_n ?_
 refine c_seq ?_
 refine c_seq ?_
 refine c_region ?_
 refine st hA2 (op_move rfl (hA2.ev rfl)) rfl rfl (by decide) fun a3 hA4 => ?_; clear hA2 a1
 refine st hA4 (op_lenS rfl un_28 (hA4.ev rfl) (hS0.ok 0 _ rfl)) rfl rfl (by decide) fun a5 hA6 => ?_; clear hA4 a3
 refine st hA6 (op_move rfl (evc _ _)) rfl rfl (by decide) fun a7 hA8 => ?_; clear hA6 a5
 refine wl_nil ?_
 refine then_n ?_
 refine c_block ?_
 have hA9 := hA8.as [(8, (Value.int .i64 0)), (7, (Value.int .i64 (xs.length : Int))), (0, v), (1, (Value.func (.func fid) fs cs))] rfl; clear hA8
 refine c_loop (G := Nat) (fun (k : Nat) a_ w_ => Fr 19 [] [(8, (Value.int .i64 (k : Int))), (7, (Value.int .i64 (xs.length : Int))), (0, v), (1, (Value.func (.func fid) fs cs))] a_ ∧ Sep NoB w w_ [(sl v 2 xs.length (pairs xs))] ∧ (k ≤ xs.length) ∧ (∀ i, i < k → p i = false)) (fun k => xs.length - k) 0 ⟨hA9.as _ rfl, hS0, by omega, by omega⟩ ?_
 clear hA9 hS0 a7
 rintro k a10 w12 ⟨hA11, hS13, hk, hn⟩
 refine c_seq ?_
 refine c_region ?_
 refine st hA11 (op_lss rfl (hA11.ev rfl) (hA11.ev rfl)) rfl rfl (by decide) fun a14 hA15 => ?_; clear hA11 a10
 refine wl_nil ?_
 refine then_n ?_
 refine c_seq ?_
 by_cases hb16 : (k : Int) < (xs.length : Int)
 ·skip
  rw [decide_eq_true hb16] at hA15
  refine c_true hA15 rfl ?_
  refine c_skip ?_
  refine then_n ?_
  refine c_seq ?_
  refine c_block ?_
  refine c_seq ?_
  refine c_region ?_
  refine st hA15 (op_move rfl (hA15.ev rfl)) rfl rfl (by decide) fun a17 hA18 => ?_; clear hA15 a14
  refine st hA18 (op_assign rfl (hA18.ev rfl)) rfl rfl (by decide) fun a19 hA20 => ?_; clear hA18 a17
  refine wl_nil ?_
  refine then_n ?_
  refine c_seq ?_
  refine c_region ?_
  refine st hA20 (op_move rfl (hA20.ev rfl)) rfl rfl (by decide) fun a21 hA22 => ?_; clear hA20 a19
  refine st hA22 (op_move rfl (hA22.ev rfl)) rfl rfl (by decide) fun a23 hA24 => ?_; clear hA22 a21
  refine st hA24 (op_move rfl (hA24.ev rfl)) rfl rfl (by decide) fun a25 hA26 => ?_; clear hA24 a23
  refine st hA26 (op_indexS rfl un_28 ty_42 (hA26.ev rfl) (i := k) (hA26.ev rfl) (hS13.ok 0 _ rfl) (by decide) (by omega)) rfl rfl (by decide) fun a27 hA28 => ?_; clear hA26 a25
  refine st hA28 (op_loadAE rfl ty_42 (hA28.ev rfl) (hS13.ok 0 _ rfl) (pairs_all (by omega)) rfl (by decide)) rfl rfl (by decide) fun a29 hA30 => ?_; clear hA28 a27
  refine stw hA30 (op_callv rfl (hA30.ev rfl) hf.1 (ev1 (hA30.ev rfl)) (hf.2 k (by omega) _ hS13.ext)) rfl rfl (by decide) ?_
  rintro a31 _ w33 ⟨rfl, hE34⟩ hA32; have hS35 := hS13.step hE34; clear hA30 hS13 a29
  refine wl_nil ?_
  refine then_n ?_
  rcases Bool.eq_false_or_eq_true (p k) with hb36 | hb36
  ·skip
   rw [hb36] at hA32
   refine c_true hA32 rfl ?_
   refine c_seq ?_
   have hA37 := hA32.as [(5, (Value.int .i64 (k : Int)))] rfl; clear hA32
   refine c_region ?_
   refine st hA37 (op_move rfl (hA37.ev rfl)) rfl rfl (by decide) fun a38 hA39 => ?_; clear hA37 a31
   refine st hA39 (op_assign rfl (hA39.ev rfl)) rfl rfl (by decide) fun a40 hA41 => ?_; clear hA39 a38
   refine wl_nil ?_
   refine then_n ?_
   refine c_ret ?_
   refine blk_ret ?_
   refine then_ret ?_
   refine then_ret ?_
   refine blk_ret ?_
   refine then_ret ?_
   refine fin_run hA41 (.inl rfl) (run_results1 hA41 rfl (.tmp rfl)) ?_
   exact ⟨by first | rw [fidx_hit (by omega) hn (by assumption)] | rw [fidx_miss (fun i hi => hn i (by omega))], hS35.ext⟩
  ·skip
   rw [hb36] at hA32
   refine c_false hA32 rfl ?_
   refine c_skip ?_
   refine blk_n ?_
   refine then_n ?_
   have hA42 := hA32.as [(8, (Value.int .i64 (k : Int))), (7, (Value.int .i64 (xs.length : Int))), (0, v), (1, (Value.func (.func fid) fs cs))] rfl; clear hA32
   refine c_region ?_
   refine st hA42 (op_add rfl (hA42.ev rfl) (evc _ _) (by omega) (by omega)) rfl rfl (by decide) fun a43 hA44 => ?_; clear hA42 a31
   refine st hA44 (op_move rfl (hA44.ev rfl)) rfl rfl (by decide) fun a45 hA46 => ?_; clear hA44 a43
   refine wl_nil ?_
   exact then_n ⟨k + 1, ⟨hA46.as _ rfl, hS35, by omega, (fun i hi => by rcases Nat.lt_succ_iff_lt_or_eq.1 hi with h | h; exact hn i h; subst h; assumption)⟩, by omega⟩
 ·skip
  rw [decide_eq_false hb16] at hA15
  refine c_false hA15 rfl ?_
  refine c_exit ?_
  refine then_exit ?_
  refine then_exit ?_
  refine blk_hit ?_
  refine then_n ?_
  refine c_seq ?_
  refine c_region ?_
  refine st hA15 (op_assign rfl (evc _ _)) rfl rfl (by decide) fun a47 hA48 => ?_; clear hA15 a14
  refine wl_nil ?_
  refine then_n ?_
  refine c_ret ?_
  refine fin_run hA48 (.inl rfl) (run_results1 hA48 rfl (.tmp rfl)) ?_
  exact ⟨by first | rw [fidx_hit (by omega) hn (by assumption)] | rw [fidx_miss (fun i hi => hn i (by omega))], hS13.ext⟩
theorem contf_rng (xs : List (Int × Int)) (v : Value) (fid : Nat) (fs cs : Array Value) (p : Nat → Bool) (w : World) (hv : SlAt w v 2 xs.length (pairs xs)) (hlen : xs.length ≤ 1000000) (hf : Asks Try.prog w fid fs cs xs.length (fun i => (Value.agg #[(Value.int .i64 ((xs.getD i (0, 0)).1)), (Value.int .i64 ((xs.getD i (0, 0)).2))])) p) :
  Calls Try.prog 84 #[v, (Value.func (.func fid) fs cs)] w (Ret fun v w' => v = .bool ((List.range xs.length).any p) ∧ Ext NoB w w') := by
 refine calls_enter Try.func84 rfl fun a0 hA0 => ?_
 replace hA0 : Fr 9 [] [(0, v), (1, (Value.func (.func fid) fs cs))] a0 := hA0
 have hS0 : Sep NoB w w [(sl v 2 xs.length (pairs xs))] := sep_ro ⟨rfl, hv, trivial⟩
 refine c_seq ?_
 refine c_region ?_
 refine st hA0 (op_assign rfl (evc _ _)) rfl rfl (by decide) fun a1 hA2 => ?_; clear hA0 a0
 refine wl_nil ?_
 refine then_n ?_
 refine c_seq ?_
 refine c_region ?_
 refine st hA2 (op_move rfl (hA2.ev rfl)) rfl rfl (by decide) fun a3 hA4 => ?_; clear hA2 a1
 refine st hA4 (op_move rfl (hA4.ev rfl)) rfl rfl (by decide) fun a5 hA6 => ?_; clear hA4 a3
 refine stw hA6 (op_call rfl en_99 (ev2 (hA6.ev rfl) (hA6.ev rfl)) (indexf_rng xs _ _ _ _ p _ (hS0.ok 0 _ rfl) hlen (hf.step hS0.ext))) rfl rfl (by decide) ?_
 rintro a7 _ w9 ⟨rfl, hE10⟩ hA8; have hS11 := hS0.step hE10; clear hE10 hA6 hS0 a5
 refine st hA8 (op_geq rfl (hA8.ev rfl) (evc _ _)) rfl rfl (by decide) fun a12 hA13 => ?_; clear hA8 a7
 refine st hA13 (op_assign rfl (hA13.ev rfl)) rfl rfl (by decide) fun a14 hA15 => ?_; clear hA13 a12
 refine wl_nil ?_
 refine then_n ?_
 refine c_ret ?_
 refine fin_run hA15 (.inl rfl) (run_results1 hA15 rfl (.tmp rfl)) ?_
 exact ⟨congrArg Value.bool (fidx_any p xs.length), hS11.ext⟩
theorem clo_rng (x1 x2 : Int) (b fid : Nat) (fs cs : Array Value) (q : Bool) (w : World) (hb : (blk b 112 [.func (.func fid) fs cs]).p w) (hen : ∀ args W, (callFunc fid args).run Try.prog W = .ok (.enter fid args) W) (hf : ∀ W, Ext NoB w W → Calls Try.prog fid (fs ++ #[(Value.agg #[(Value.int .i64 x1), (Value.int .i64 x2)])] ++ cs) W (Ret fun v w' => v = .bool q ∧ Ext NoB W w')) :
  Calls Try.prog 85 #[(Value.agg #[(Value.int .i64 x1), (Value.int .i64 x2)]), (bptr b 0)] w (Ret fun v w' => v = .bool (!q) ∧ Ext NoB w w') := by
 refine calls_enter Try.func85 rfl fun a0 hA0 => ?_
 replace hA0 : Fr 8 [] [(0, (Value.agg #[(Value.int .i64 x1), (Value.int .i64 x2)])), (1, (bptr b 0))] a0 := hA0
 have hS0 : Sep NoB w w [(rob b 112 [(Value.func (.func fid) fs cs)])] := sep_ro ⟨rfl, hb, trivial⟩
 refine c_seq ?_
 refine c_region ?_
 refine stw hA0 (op_box hS0 rfl (hA0.ev rfl) (cs := [(Value.int .i64 x1), (Value.int .i64 x2)]) rfl) rfl rfl (by decide) ?_
 rintro a1 _ w3 ⟨b4, rfl, hS5⟩ hA2; clear hA0 hS0 a0
 refine st hA2 (op_assign rfl (evc _ _)) rfl rfl (by decide) fun a6 hA7 => ?_; clear hA2 a1
 refine wl_nil ?_
 refine then_n ?_
 refine c_seq ?_
 refine c_region ?_
 refine st hA7 (op_load1 rfl ty_112 (hA7.ev rfl) (hS5.rk 1 rfl) rfl) rfl rfl (by decide) fun a8 hA9 => ?_; clear hA7 a6
 refine st hA9 (op_loadA rfl ty_42 (hA9.ev rfl) (hS5.bk 0 rfl) (l := [(Value.int .i64 x1), (Value.int .i64 x2)]) rfl rfl) rfl rfl (by decide) fun a10 hA11 => ?_; clear hA9 a8
 refine stw hA11 (op_callv rfl (hA11.ev rfl) hen (ev1 (hA11.ev rfl)) (hf _ hS5.ext)) rfl rfl (by decide) ?_
 rintro a12 _ w14 ⟨rfl, hE15⟩ hA13; have hS16 := hS5.step hE15; clear hA11 hS5 a10
 refine st hA13 (op_not rfl (hA13.ev rfl)) rfl rfl (by decide) fun a17 hA18 => ?_; clear hA13 a12
 refine st hA18 (op_assign rfl (hA18.ev rfl)) rfl rfl (by decide) fun a19 hA20 => ?_; clear hA18 a17
 refine wl_nil ?_
 refine then_n ?_
 refine c_ret ?_
 refine fin_run hA20 (.inl rfl) (run_results1 hA20 rfl (.tmp rfl)) ?_
 exact ⟨rfl, hS16.ext⟩
theorem all_rng (xs : List (Int × Int)) (v : Value) (fid : Nat) (fs cs : Array Value) (p : Nat → Bool) (w : World) (hv : SlAt w v 2 xs.length (pairs xs)) (hlen : xs.length ≤ 1000000) (hf : Asks Try.prog w fid fs cs xs.length (fun i => (Value.agg #[(Value.int .i64 ((xs.getD i (0, 0)).1)), (Value.int .i64 ((xs.getD i (0, 0)).2))])) p) :
  Calls Try.prog 63 #[v, (Value.func (.func fid) fs cs)] w (Ret fun v w' => v = .bool ((List.range xs.length).all p) ∧ Ext NoB w w') := by
 refine calls_enter Try.func63 rfl fun a0 hA0 => ?_
 replace hA0 : Fr 9 [] [(0, v), (1, (Value.func (.func fid) fs cs))] a0 := hA0
 have hS0 : Sep NoB w w [(sl v 2 xs.length (pairs xs))] := sep_ro ⟨rfl, hv, trivial⟩
 refine c_seq ?_
 refine c_region ?_
 refine stw hA0 (op_box hS0 rfl (hA0.ev rfl) (cs := [(Value.func (.func fid) fs cs)]) rfl) rfl rfl (by decide) ?_
 rintro a1 _ w3 ⟨b4, rfl, hS5⟩ hA2; clear hA0 hS0 a0
 refine st hA2 (op_assign rfl (evc _ _)) rfl rfl (by decide) fun a6 hA7 => ?_; clear hA2 a1
 refine wl_nil ?_
 refine then_n ?_
 refine c_seq ?_
 refine c_region ?_
 refine st hA7 (op_move rfl (hA7.ev rfl)) rfl rfl (by decide) fun a8 hA9 => ?_; clear hA7 a6
 refine st hA9 (op_makeFunc rfl ev0 (ev1 (hA9.ev rfl))) rfl rfl (by decide) fun a10 hA11 => ?_; clear hA9 a8
 refine stw hA11 (op_call rfl en_84 (ev2 (hA11.ev rfl) (hA11.ev rfl)) (contf_rng xs _ 85 #[] #[(bptr b4 0)] (fun i => !p i) _ (hS5.ok 1 _ rfl) hlen ⟨en_85, fun i hi W hW => clo_rng _ _ _ _ _ _ (p i) W ((hS5.step hW).bk 0 rfl) hf.1 (fun W' hW' => hf.2 i hi W' (hS5.ext.trans (hW.trans hW')))⟩)) rfl rfl (by decide) ?_
 rintro a12 _ w14 ⟨rfl, hE15⟩ hA13; have hS16 := hS5.step hE15; clear hE15 hA11 hS5 a10
 refine st hA13 (op_not rfl (hA13.ev rfl)) rfl rfl (by decide) fun a17 hA18 => ?_; clear hA13 a12
 refine st hA18 (op_assign rfl (hA18.ev rfl)) rfl rfl (by decide) fun a19 hA20 => ?_; clear hA18 a17
 refine wl_nil ?_
 refine then_n ?_
 refine c_ret ?_
 refine fin_run hA20 (.inl rfl) (run_results1 hA20 rfl (.tmp rfl)) ?_
 exact ⟨congrArg Value.bool (any_not p xs.length), hS16.ext⟩
theorem indexf_seg (xs : List Seg) (v : Value) (fid : Nat) (fs cs : Array Value) (p : Nat → Bool) (w : World) (hv : SlAt w v 3 xs.length (trips xs)) (hlen : xs.length ≤ 1000000) (hf : Asks Try.prog w fid fs cs xs.length (fun i => (Value.agg #[(Value.int .i64 ((xs.getD i (0, 0, 0)).1)), (Value.int .i64 ((xs.getD i (0, 0, 0)).2.1)), (Value.int .i64 ((xs.getD i (0, 0, 0)).2.2))])) p) :
  Calls Try.prog 103 #[v, (Value.func (.func fid) fs cs)] w (Ret fun v w' => v = .int .i64 (fidx p xs.length) ∧ Ext NoB w w') := by
 refine calls_enter Try.func103 rfl fun a0 hA0 => ?_
 replace hA0 : Fr 19 [] [(0, v), (1, (Value.func (.func fid) fs cs))] a0 := hA0
 have hS0 : Sep NoB w w [(sl v 3 xs.length (trips xs))] := sep_ro ⟨rfl, hv, trivial⟩
 refine c_seq ?_
 refine c_region ?_
 refine st hA0 (op_assign rfl (evc _ _)) rfl rfl (by decide) fun a1 hA2 => ?_; clear hA0 a0
 refine wl_nil ?_
 refine then_n ?_
 refine c_seq ?_
 refine c_seq ?_
 refine c_region ?_
 refine st hA2 (op_move rfl (hA2.ev rfl)) rfl rfl (by decide) fun a3 hA4 => ?_; clear hA2 a1
 refine st hA4 (op_lenS rfl un_58 (hA4.ev rfl) (hS0.ok 0 _ rfl)) rfl rfl (by decide) fun a5 hA6 => ?_; clear hA4 a3
 refine st hA6 (op_move rfl (evc _ _)) rfl rfl (by decide) fun a7 hA8 => ?_; clear hA6 a5
 refine wl_nil ?_
 refine then_n ?_
 refine c_block ?_
 have hA9 := hA8.as [(8, (Value.int .i64 0)), (7, (Value.int .i64 (xs.length : Int))), (0, v), (1, (Value.func (.func fid) fs cs))] rfl; clear hA8
 refine c_loop (G := Nat) (fun (k : Nat) a_ w_ => Fr 19 [] [(8, (Value.int .i64 (k : Int))), (7, (Value.int .i64 (xs.length : Int))), (0, v), (1, (Value.func (.func fid) fs cs))] a_ ∧ Sep NoB w w_ [(sl v 3 xs.length (trips xs))] ∧ (k ≤ xs.length) ∧ (∀ i, i < k → p i = false)) (fun k => xs.length - k) 0 ⟨hA9.as _ rfl, hS0, by omega, by omega⟩ ?_
 clear hA9 hS0 a7
 rintro k a10 w12 ⟨hA11, hS13, hk, hn⟩
 refine c_seq ?_
 refine c_region ?_
 refine st hA11 (op_lss rfl (hA11.ev rfl) (hA11.ev rfl)) rfl rfl (by decide) fun a14 hA15 => ?_; clear hA11 a10
 refine wl_nil ?_
 refine then_n ?_
 refine c_seq ?_
 by_cases hb16 : (k : Int) < (xs.length : Int)
 ·skip
  rw [decide_eq_true hb16] at hA15
  refine c_true hA15 rfl ?_
  refine c_skip ?_
  refine then_n ?_
  refine c_seq ?_
  refine c_block ?_
  refine c_seq ?_
  refine c_region ?_
  refine st hA15 (op_move rfl (hA15.ev rfl)) rfl rfl (by decide) fun a17 hA18 => ?_; clear hA15 a14
  refine st hA18 (op_assign rfl (hA18.ev rfl)) rfl rfl (by decide) fun a19 hA20 => ?_; clear hA18 a17
  refine wl_nil ?_
  refine then_n ?_
  refine c_seq ?_
  refine c_region ?_
  refine st hA20 (op_move rfl (hA20.ev rfl)) rfl rfl (by decide) fun a21 hA22 => ?_; clear hA20 a19
  refine st hA22 (op_move rfl (hA22.ev rfl)) rfl rfl (by decide) fun a23 hA24 => ?_; clear hA22 a21
  refine st hA24 (op_move rfl (hA24.ev rfl)) rfl rfl (by decide) fun a25 hA26 => ?_; clear hA24 a23
  refine st hA26 (op_indexS rfl un_58 ty_67 (hA26.ev rfl) (i := k) (hA26.ev rfl) (hS13.ok 0 _ rfl) (by decide) (by omega)) rfl rfl (by decide) fun a27 hA28 => ?_; clear hA26 a25
  refine st hA28 (op_loadAE rfl ty_67 (hA28.ev rfl) (hS13.ok 0 _ rfl) (trips_all (by omega)) rfl (by decide)) rfl rfl (by decide) fun a29 hA30 => ?_; clear hA28 a27
  refine stw hA30 (op_callv rfl (hA30.ev rfl) hf.1 (ev1 (hA30.ev rfl)) (hf.2 k (by omega) _ hS13.ext)) rfl rfl (by decide) ?_
  rintro a31 _ w33 ⟨rfl, hE34⟩ hA32; have hS35 := hS13.step hE34; clear hA30 hS13 a29
  refine wl_nil ?_
  refine then_n ?_
  rcases Bool.eq_false_or_eq_true (p k) with hb36 | hb36
  ·skip
   rw [hb36] at hA32
   refine c_true hA32 rfl ?_
   refine c_seq ?_
   have hA37 := hA32.as [(5, (Value.int .i64 (k : Int)))] rfl; clear hA32
   refine c_region ?_
   refine st hA37 (op_move rfl (hA37.ev rfl)) rfl rfl (by decide) fun a38 hA39 => ?_; clear hA37 a31
   refine st hA39 (op_assign rfl (hA39.ev rfl)) rfl rfl (by decide) fun a40 hA41 => ?_; clear hA39 a38
   refine wl_nil ?_
   refine then_n ?_
   refine c_ret ?_
   refine blk_ret ?_
   refine then_ret ?_
   refine then_ret ?_
   refine blk_ret ?_
   refine then_ret ?_
   refine fin_run hA41 (.inl rfl) (run_results1 hA41 rfl (.tmp rfl)) ?_
   exact ⟨by first | rw [fidx_hit (by omega) hn (by assumption)] | rw [fidx_miss (fun i hi => hn i (by omega))], hS35.ext⟩
  ·skip
   rw [hb36] at hA32
   refine c_false hA32 rfl ?_
   refine c_skip ?_
   refine blk_n ?_
   refine then_n ?_
   have hA42 := hA32.as [(8, (Value.int .i64 (k : Int))), (7, (Value.int .i64 (xs.length : Int))), (0, v), (1, (Value.func (.func fid) fs cs))] rfl; clear hA32
   refine c_region ?_
   refine st hA42 (op_add rfl (hA42.ev rfl) (evc _ _) (by omega) (by omega)) rfl rfl (by decide) fun a43 hA44 => ?_; clear hA42 a31
   refine st hA44 (op_move rfl (hA44.ev rfl)) rfl rfl (by decide) fun a45 hA46 => ?_; clear hA44 a43
   refine wl_nil ?_
   exact then_n ⟨k + 1, ⟨hA46.as _ rfl, hS35, by omega, (fun i hi => by rcases Nat.lt_succ_iff_lt_or_eq.1 hi with h | h; exact hn i h; subst h; assumption)⟩, by omega⟩
 ·skip
  rw [decide_eq_false hb16] at hA15
  refine c_false hA15 rfl ?_
  refine c_exit ?_
  refine then_exit ?_
  refine then_exit ?_
  refine blk_hit ?_
  refine then_n ?_
  refine c_seq ?_
  refine c_region ?_
  refine st hA15 (op_assign rfl (evc _ _)) rfl rfl (by decide) fun a47 hA48 => ?_; clear hA15 a14
  refine wl_nil ?_
  refine then_n ?_
  refine c_ret ?_
  refine fin_run hA48 (.inl rfl) (run_results1 hA48 rfl (.tmp rfl)) ?_
  exact ⟨by first | rw [fidx_hit (by omega) hn (by assumption)] | rw [fidx_miss (fun i hi => hn i (by omega))], hS13.ext⟩
theorem contf_seg (xs : List Seg) (v : Value) (fid : Nat) (fs cs : Array Value) (p : Nat → Bool) (w : World) (hv : SlAt w v 3 xs.length (trips xs)) (hlen : xs.length ≤ 1000000) (hf : Asks Try.prog w fid fs cs xs.length (fun i => (Value.agg #[(Value.int .i64 ((xs.getD i (0, 0, 0)).1)), (Value.int .i64 ((xs.getD i (0, 0, 0)).2.1)), (Value.int .i64 ((xs.getD i (0, 0, 0)).2.2))])) p) :
  Calls Try.prog 96 #[v, (Value.func (.func fid) fs cs)] w (Ret fun v w' => v = .bool ((List.range xs.length).any p) ∧ Ext NoB w w') := by
 refine calls_enter Try.func96 rfl fun a0 hA0 => ?_
 replace hA0 : Fr 9 [] [(0, v), (1, (Value.func (.func fid) fs cs))] a0 := hA0
 have hS0 : Sep NoB w w [(sl v 3 xs.length (trips xs))] := sep_ro ⟨rfl, hv, trivial⟩
 refine c_seq ?_
 refine c_region ?_
 refine st hA0 (op_assign rfl (evc _ _)) rfl rfl (by decide) fun a1 hA2 => ?_; clear hA0 a0
 refine wl_nil ?_
 refine then_n ?_
 refine c_seq ?_
 refine c_region ?_
 refine st hA2 (op_move rfl (hA2.ev rfl)) rfl rfl (by decide) fun a3 hA4 => ?_; clear hA2 a1
 refine st hA4 (op_move rfl (hA4.ev rfl)) rfl rfl (by decide) fun a5 hA6 => ?_; clear hA4 a3
 refine stw hA6 (op_call rfl en_103 (ev2 (hA6.ev rfl) (hA6.ev rfl)) (indexf_seg xs _ _ _ _ p _ (hS0.ok 0 _ rfl) hlen (hf.step hS0.ext))) rfl rfl (by decide) ?_
 rintro a7 _ w9 ⟨rfl, hE10⟩ hA8; have hS11 := hS0.step hE10; clear hE10 hA6 hS0 a5
 refine st hA8 (op_geq rfl (hA8.ev rfl) (evc _ _)) rfl rfl (by decide) fun a12 hA13 => ?_; clear hA8 a7
 refine st hA13 (op_assign rfl (hA13.ev rfl)) rfl rfl (by decide) fun a14 hA15 => ?_; clear hA13 a12
 refine wl_nil ?_
 refine then_n ?_
 refine c_ret ?_
 refine fin_run hA15 (.inl rfl) (run_results1 hA15 rfl (.tmp rfl)) ?_
 exact ⟨congrArg Value.bool (fidx_any p xs.length), hS11.ext⟩
theorem clo_seg (x1 x2 x3 : Int) (b fid : Nat) (fs cs : Array Value) (q : Bool) (w : World) (hb : (blk b 128 [.func (.func fid) fs cs]).p w) (hen : ∀ args W, (callFunc fid args).run Try.prog W = .ok (.enter fid args) W) (hf : ∀ W, Ext NoB w W → Calls Try.prog fid (fs ++ #[(Value.agg #[(Value.int .i64 x1), (Value.int .i64 x2), (Value.int .i64 x3)])] ++ cs) W (Ret fun v w' => v = .bool q ∧ Ext NoB W w')) :
  Calls Try.prog 97 #[(Value.agg #[(Value.int .i64 x1), (Value.int .i64 x2), (Value.int .i64 x3)]), (bptr b 0)] w (Ret fun v w' => v = .bool (!q) ∧ Ext NoB w w') := by
 refine calls_enter Try.func97 rfl fun a0 hA0 => ?_
 replace hA0 : Fr 8 [] [(0, (Value.agg #[(Value.int .i64 x1), (Value.int .i64 x2), (Value.int .i64 x3)])), (1, (bptr b 0))] a0 := hA0
 have hS0 : Sep NoB w w [(rob b 128 [(Value.func (.func fid) fs cs)])] := sep_ro ⟨rfl, hb, trivial⟩
 refine c_seq ?_
 refine c_region ?_
 refine stw hA0 (op_box hS0 rfl (hA0.ev rfl) (cs := [(Value.int .i64 x1), (Value.int .i64 x2), (Value.int .i64 x3)]) rfl) rfl rfl (by decide) ?_
 rintro a1 _ w3 ⟨b4, rfl, hS5⟩ hA2; clear hA0 hS0 a0
 refine st hA2 (op_assign rfl (evc _ _)) rfl rfl (by decide) fun a6 hA7 => ?_; clear hA2 a1
 refine wl_nil ?_
 refine then_n ?_
 refine c_seq ?_
 refine c_region ?_
 refine st hA7 (op_load1 rfl ty_128 (hA7.ev rfl) (hS5.rk 1 rfl) rfl) rfl rfl (by decide) fun a8 hA9 => ?_; clear hA7 a6
 refine st hA9 (op_loadA rfl ty_67 (hA9.ev rfl) (hS5.bk 0 rfl) (l := [(Value.int .i64 x1), (Value.int .i64 x2), (Value.int .i64 x3)]) rfl rfl) rfl rfl (by decide) fun a10 hA11 => ?_; clear hA9 a8
 refine stw hA11 (op_callv rfl (hA11.ev rfl) hen (ev1 (hA11.ev rfl)) (hf _ hS5.ext)) rfl rfl (by decide) ?_
 rintro a12 _ w14 ⟨rfl, hE15⟩ hA13; have hS16 := hS5.step hE15; clear hA11 hS5 a10
 refine st hA13 (op_not rfl (hA13.ev rfl)) rfl rfl (by decide) fun a17 hA18 => ?_; clear hA13 a12
 refine st hA18 (op_assign rfl (hA18.ev rfl)) rfl rfl (by decide) fun a19 hA20 => ?_; clear hA18 a17
 refine wl_nil ?_
 refine then_n ?_
 refine c_ret ?_
 refine fin_run hA20 (.inl rfl) (run_results1 hA20 rfl (.tmp rfl)) ?_
 exact ⟨rfl, hS16.ext⟩
theorem all_seg (xs : List Seg) (v : Value) (fid : Nat) (fs cs : Array Value) (p : Nat → Bool) (w : World) (hv : SlAt w v 3 xs.length (trips xs)) (hlen : xs.length ≤ 1000000) (hf : Asks Try.prog w fid fs cs xs.length (fun i => (Value.agg #[(Value.int .i64 ((xs.getD i (0, 0, 0)).1)), (Value.int .i64 ((xs.getD i (0, 0, 0)).2.1)), (Value.int .i64 ((xs.getD i (0, 0, 0)).2.2))])) p) :
  Calls Try.prog 79 #[v, (Value.func (.func fid) fs cs)] w (Ret fun v w' => v = .bool ((List.range xs.length).all p) ∧ Ext NoB w w') := by
 refine calls_enter Try.func79 rfl fun a0 hA0 => ?_
 replace hA0 : Fr 9 [] [(0, v), (1, (Value.func (.func fid) fs cs))] a0 := hA0
 have hS0 : Sep NoB w w [(sl v 3 xs.length (trips xs))] := sep_ro ⟨rfl, hv, trivial⟩
 refine c_seq ?_
 refine c_region ?_
 refine stw hA0 (op_box hS0 rfl (hA0.ev rfl) (cs := [(Value.func (.func fid) fs cs)]) rfl) rfl rfl (by decide) ?_
 rintro a1 _ w3 ⟨b4, rfl, hS5⟩ hA2; clear hA0 hS0 a0
 refine st hA2 (op_assign rfl (evc _ _)) rfl rfl (by decide) fun a6 hA7 => ?_; clear hA2 a1
 refine wl_nil ?_
 refine then_n ?_
 refine c_seq ?_
 refine c_region ?_
 refine st hA7 (op_move rfl (hA7.ev rfl)) rfl rfl (by decide) fun a8 hA9 => ?_; clear hA7 a6
 refine st hA9 (op_makeFunc rfl ev0 (ev1 (hA9.ev rfl))) rfl rfl (by decide) fun a10 hA11 => ?_; clear hA9 a8
 refine stw hA11 (op_call rfl en_96 (ev2 (hA11.ev rfl) (hA11.ev rfl)) (contf_seg xs _ 97 #[] #[(bptr b4 0)] (fun i => !p i) _ (hS5.ok 1 _ rfl) hlen ⟨en_97, fun i hi W hW => clo_seg _ _ _ _ _ _ _ (p i) W ((hS5.step hW).bk 0 rfl) hf.1 (fun W' hW' => hf.2 i hi W' (hS5.ext.trans (hW.trans hW')))⟩)) rfl rfl (by decide) ?_
 rintro a12 _ w14 ⟨rfl, hE15⟩ hA13; have hS16 := hS5.step hE15; clear hE15 hA11 hS5 a10
 refine st hA13 (op_not rfl (hA13.ev rfl)) rfl rfl (by decide) fun a17 hA18 => ?_; clear hA13 a12
 refine st hA18 (op_assign rfl (hA18.ev rfl)) rfl rfl (by decide) fun a19 hA20 => ?_; clear hA18 a17
 refine wl_nil ?_
 refine then_n ?_
 refine c_ret ?_
 refine fin_run hA20 (.inl rfl) (run_results1 hA20 rfl (.tmp rfl)) ?_
 exact ⟨congrArg Value.bool (any_not p xs.length), hS16.ext⟩
theorem indexf_run (xs : List RunD) (lv : List Value) (hlv : lv.length = xs.length) (v : Value) (fid : Nat) (fs cs : Array Value) (p : Nat → Bool) (w : World) (hv : SlAt w v 3 xs.length (vtrips (runV lv xs))) (hlen : xs.length ≤ 1000000) (hf : Asks Try.prog w fid fs cs xs.length (fun i => (Value.agg #[(lv.getD i nilS), (Value.int .i64 ((xs.getD i run0).lo)), (Value.int .i64 ((xs.getD i run0).hi))])) p) :
  Calls Try.prog 104 #[v, (Value.func (.func fid) fs cs)] w (Ret fun v w' => v = .int .i64 (fidx p xs.length) ∧ Ext NoB w w') := by
 refine calls_enter Try.func104 rfl fun a0 hA0 => ?_
 replace hA0 : Fr 19 [] [(0, v), (1, (Value.func (.func fid) fs cs))] a0 := hA0
 have hS0 : Sep NoB w w [(sl v 3 xs.length (vtrips (runV lv xs)))] := sep_ro ⟨rfl, hv, trivial⟩
 refine c_seq ?_
 refine c_region ?_
 refine st hA0 (op_assign rfl (evc _ _)) rfl rfl (by decide) fun a1 hA2 => ?_; clear hA0 a0
 refine wl_nil ?_
 refine then_n ?_
 refine c_seq ?_
 refine c_seq ?_
 refine c_region ?_
 refine st hA2 (op_move rfl (hA2.ev rfl)) rfl rfl (by decide) fun a3 hA4 => ?_; clear hA2 a1
 refine st hA4 (op_lenS rfl un_35 (hA4.ev rfl) (hS0.ok 0 _ rfl)) rfl rfl (by decide) fun a5 hA6 => ?_; clear hA4 a3
 refine st hA6 (op_move rfl (evc _ _)) rfl rfl (by decide) fun a7 hA8 => ?_; clear hA6 a5
 refine wl_nil ?_
 refine then_n ?_
 refine c_block ?_
 have hA9 := hA8.as [(8, (Value.int .i64 0)), (7, (Value.int .i64 (xs.length : Int))), (0, v), (1, (Value.func (.func fid) fs cs))] rfl; clear hA8
 refine c_loop (G := Nat) (fun (k : Nat) a_ w_ => Fr 19 [] [(8, (Value.int .i64 (k : Int))), (7, (Value.int .i64 (xs.length : Int))), (0, v), (1, (Value.func (.func fid) fs cs))] a_ ∧ Sep NoB w w_ [(sl v 3 xs.length (vtrips (runV lv xs)))] ∧ (k ≤ xs.length) ∧ (∀ i, i < k → p i = false)) (fun k => xs.length - k) 0 ⟨hA9.as _ rfl, hS0, by omega, by omega⟩ ?_
 clear hA9 hS0 a7
 rintro k a10 w12 ⟨hA11, hS13, hk, hn⟩
 refine c_seq ?_
 refine c_region ?_
 refine st hA11 (op_lss rfl (hA11.ev rfl) (hA11.ev rfl)) rfl rfl (by decide) fun a14 hA15 => ?_; clear hA11 a10
 refine wl_nil ?_
 refine then_n ?_
 refine c_seq ?_
 by_cases hb16 : (k : Int) < (xs.length : Int)
 ·skip
  rw [decide_eq_true hb16] at hA15
  refine c_true hA15 rfl ?_
  refine c_skip ?_
  refine then_n ?_
  refine c_seq ?_
  refine c_block ?_
  refine c_seq ?_
  refine c_region ?_
  refine st hA15 (op_move rfl (hA15.ev rfl)) rfl rfl (by decide) fun a17 hA18 => ?_; clear hA15 a14
  refine st hA18 (op_assign rfl (hA18.ev rfl)) rfl rfl (by decide) fun a19 hA20 => ?_; clear hA18 a17
  refine wl_nil ?_
  refine then_n ?_
  refine c_seq ?_
  refine c_region ?_
  refine st hA20 (op_move rfl (hA20.ev rfl)) rfl rfl (by decide) fun a21 hA22 => ?_; clear hA20 a19
  refine st hA22 (op_move rfl (hA22.ev rfl)) rfl rfl (by decide) fun a23 hA24 => ?_; clear hA22 a21
  refine st hA24 (op_move rfl (hA24.ev rfl)) rfl rfl (by decide) fun a25 hA26 => ?_; clear hA24 a23
  refine st hA26 (op_indexS rfl un_35 ty_96 (hA26.ev rfl) (i := k) (hA26.ev rfl) (hS13.ok 0 _ rfl) (by decide) (by omega)) rfl rfl (by decide) fun a27 hA28 => ?_; clear hA26 a25
  refine st hA28 (op_loadAE rfl ty_96 (hA28.ev rfl) (hS13.ok 0 _ rfl) (runs_all hlv (by omega)) rfl (by decide)) rfl rfl (by decide) fun a29 hA30 => ?_; clear hA28 a27
  refine stw hA30 (op_callv rfl (hA30.ev rfl) hf.1 (ev1 (hA30.ev rfl)) (hf.2 k (by omega) _ hS13.ext)) rfl rfl (by decide) ?_
  rintro a31 _ w33 ⟨rfl, hE34⟩ hA32; have hS35 := hS13.step hE34; clear hA30 hS13 a29
  refine wl_nil ?_
  refine then_n ?_
  rcases Bool.eq_false_or_eq_true (p k) with hb36 | hb36
  ·skip
   rw [hb36] at hA32
   refine c_true hA32 rfl ?_
   refine c_seq ?_
   have hA37 := hA32.as [(5, (Value.int .i64 (k : Int)))] rfl; clear hA32
   refine c_region ?_
   refine st hA37 (op_move rfl (hA37.ev rfl)) rfl rfl (by decide) fun a38 hA39 => ?_; clear hA37 a31
   refine st hA39 (op_assign rfl (hA39.ev rfl)) rfl rfl (by decide) fun a40 hA41 => ?_; clear hA39 a38
   refine wl_nil ?_
   refine then_n ?_
   refine c_ret ?_
   refine blk_ret ?_
   refine then_ret ?_
   refine then_ret ?_
   refine blk_ret ?_
   refine then_ret ?_
   refine fin_run hA41 (.inl rfl) (run_results1 hA41 rfl (.tmp rfl)) ?_
   exact ⟨by first | rw [fidx_hit (by omega) hn (by assumption)] | rw [fidx_miss (fun i hi => hn i (by omega))], hS35.ext⟩
  ·skip
   rw [hb36] at hA32
   refine c_false hA32 rfl ?_
   refine c_skip ?_
   refine blk_n ?_
   refine then_n ?_
   have hA42 := hA32.as [(8, (Value.int .i64 (k : Int))), (7, (Value.int .i64 (xs.length : Int))), (0, v), (1, (Value.func (.func fid) fs cs))] rfl; clear hA32
   refine c_region ?_
   refine st hA42 (op_add rfl (hA42.ev rfl) (evc _ _) (by omega) (by omega)) rfl rfl (by decide) fun a43 hA44 => ?_; clear hA42 a31
   refine st hA44 (op_move rfl (hA44.ev rfl)) rfl rfl (by decide) fun a45 hA46 => ?_; clear hA44 a43
   refine wl_nil ?_
   exact then_n ⟨k + 1, ⟨hA46.as _ rfl, hS35, by omega, (fun i hi => by rcases Nat.lt_succ_iff_lt_or_eq.1 hi with h | h; exact hn i h; subst h; assumption)⟩, by omega⟩
 ·skip
  rw [decide_eq_false hb16] at hA15
  refine c_false hA15 rfl ?_
  refine c_exit ?_
  refine then_exit ?_
  refine then_exit ?_
  refine blk_hit ?_
  refine then_n ?_
  refine c_seq ?_
  refine c_region ?_
  refine st hA15 (op_assign rfl (evc _ _)) rfl rfl (by decide) fun a47 hA48 => ?_; clear hA15 a14
  refine wl_nil ?_
  refine then_n ?_
  refine c_ret ?_
  refine fin_run hA48 (.inl rfl) (run_results1 hA48 rfl (.tmp rfl)) ?_
  exact ⟨by first | rw [fidx_hit (by omega) hn (by assumption)] | rw [fidx_miss (fun i hi => hn i (by omega))], hS13.ext⟩
theorem contf_run (xs : List RunD) (lv : List Value) (hlv : lv.length = xs.length) (v : Value) (fid : Nat) (fs cs : Array Value) (p : Nat → Bool) (w : World) (hv : SlAt w v 3 xs.length (vtrips (runV lv xs))) (hlen : xs.length ≤ 1000000) (hf : Asks Try.prog w fid fs cs xs.length (fun i => (Value.agg #[(lv.getD i nilS), (Value.int .i64 ((xs.getD i run0).lo)), (Value.int .i64 ((xs.getD i run0).hi))])) p) :
  Calls Try.prog 100 #[v, (Value.func (.func fid) fs cs)] w (Ret fun v w' => v = .bool ((List.range xs.length).any p) ∧ Ext NoB w w') := by
 refine calls_enter Try.func100 rfl fun a0 hA0 => ?_
 replace hA0 : Fr 9 [] [(0, v), (1, (Value.func (.func fid) fs cs))] a0 := hA0
 have hS0 : Sep NoB w w [(sl v 3 xs.length (vtrips (runV lv xs)))] := sep_ro ⟨rfl, hv, trivial⟩
 refine c_seq ?_
 refine c_region ?_
 refine st hA0 (op_assign rfl (evc _ _)) rfl rfl (by decide) fun a1 hA2 => ?_; clear hA0 a0
 refine wl_nil ?_
 refine then_n ?_
 refine c_seq ?_
 refine c_region ?_
 refine st hA2 (op_move rfl (hA2.ev rfl)) rfl rfl (by decide) fun a3 hA4 => ?_; clear hA2 a1
 refine st hA4 (op_move rfl (hA4.ev rfl)) rfl rfl (by decide) fun a5 hA6 => ?_; clear hA4 a3
 refine stw hA6 (op_call rfl en_104 (ev2 (hA6.ev rfl) (hA6.ev rfl)) (indexf_run xs lv hlv _ _ _ _ p _ (hS0.ok 0 _ rfl) hlen (hf.step hS0.ext))) rfl rfl (by decide) ?_
 rintro a7 _ w9 ⟨rfl, hE10⟩ hA8; have hS11 := hS0.step hE10; clear hE10 hA6 hS0 a5
 refine st hA8 (op_geq rfl (hA8.ev rfl) (evc _ _)) rfl rfl (by decide) fun a12 hA13 => ?_; clear hA8 a7
 refine st hA13 (op_assign rfl (hA13.ev rfl)) rfl rfl (by decide) fun a14 hA15 => ?_; clear hA13 a12
 refine wl_nil ?_
 refine then_n ?_
 refine c_ret ?_
 refine fin_run hA15 (.inl rfl) (run_results1 hA15 rfl (.tmp rfl)) ?_
 exact ⟨congrArg Value.bool (fidx_any p xs.length), hS11.ext⟩
theorem clo_run (x1 : Value) (hx : x1.oneCell' = true) (x2 x3 : Int) (b fid : Nat) (fs cs : Array Value) (q : Bool) (w : World) (hb : (blk b 136 [.func (.func fid) fs cs]).p w) (hen : ∀ args W, (callFunc fid args).run Try.prog W = .ok (.enter fid args) W) (hf : ∀ W, Ext NoB w W → Calls Try.prog fid (fs ++ #[(Value.agg #[x1, (Value.int .i64 x2), (Value.int .i64 x3)])] ++ cs) W (Ret fun v w' => v = .bool q ∧ Ext NoB W w')) :
  Calls Try.prog 101 #[(Value.agg #[x1, (Value.int .i64 x2), (Value.int .i64 x3)]), (bptr b 0)] w (Ret fun v w' => v = .bool (!q) ∧ Ext NoB w w') := by
 refine calls_enter Try.func101 rfl fun a0 hA0 => ?_
 replace hA0 : Fr 8 [] [(0, (Value.agg #[x1, (Value.int .i64 x2), (Value.int .i64 x3)])), (1, (bptr b 0))] a0 := hA0
 have hS0 : Sep NoB w w [(rob b 136 [(Value.func (.func fid) fs cs)])] := sep_ro ⟨rfl, hb, trivial⟩
 refine c_seq ?_
 refine c_region ?_
 refine stw hA0 (op_box hS0 rfl (hA0.ev rfl) (cs := [x1, (Value.int .i64 x2), (Value.int .i64 x3)]) rfl) rfl rfl (by decide) ?_
 rintro a1 _ w3 ⟨b4, rfl, hS5⟩ hA2; clear hA0 hS0 a0
 refine st hA2 (op_assign rfl (evc _ _)) rfl rfl (by decide) fun a6 hA7 => ?_; clear hA2 a1
 refine wl_nil ?_
 refine then_n ?_
 refine c_seq ?_
 refine c_region ?_
 refine st hA7 (op_load1 rfl ty_136 (hA7.ev rfl) (hS5.rk 1 rfl) rfl) rfl rfl (by decide) fun a8 hA9 => ?_; clear hA7 a6
 refine st hA9 (op_loadA rfl ty_96 (hA9.ev rfl) (hS5.bk 0 rfl) (l := [x1, (Value.int .i64 x2), (Value.int .i64 x3)]) rfl rfl) rfl rfl (by decide) fun a10 hA11 => ?_; clear hA9 a8
 refine stw hA11 (op_callv rfl (hA11.ev rfl) hen (ev1 (hA11.ev rfl)) (hf _ hS5.ext)) rfl rfl (by decide) ?_
 rintro a12 _ w14 ⟨rfl, hE15⟩ hA13; have hS16 := hS5.step hE15; clear hA11 hS5 a10
 refine st hA13 (op_not rfl (hA13.ev rfl)) rfl rfl (by decide) fun a17 hA18 => ?_; clear hA13 a12
 refine st hA18 (op_assign rfl (hA18.ev rfl)) rfl rfl (by decide) fun a19 hA20 => ?_; clear hA18 a17
 refine wl_nil ?_
 refine then_n ?_
 refine c_ret ?_
 refine fin_run hA20 (.inl rfl) (run_results1 hA20 rfl (.tmp rfl)) ?_
 exact ⟨rfl, hS16.ext⟩
theorem all_run (xs : List RunD) (lv : List Value) (hlv : lv.length = xs.length) (v : Value) (fid : Nat) (fs cs : Array Value) (p : Nat → Bool) (w : World) (hv : SlAt w v 3 xs.length (vtrips (runV lv xs))) (hlen : xs.length ≤ 1000000) (hf : Asks Try.prog w fid fs cs xs.length (fun i => (Value.agg #[(lv.getD i nilS), (Value.int .i64 ((xs.getD i run0).lo)), (Value.int .i64 ((xs.getD i run0).hi))])) p) (hone : ∀ i, i < xs.length → (lv.getD i nilS).oneCell' = true) :
  Calls Try.prog 89 #[v, (Value.func (.func fid) fs cs)] w (Ret fun v w' => v = .bool ((List.range xs.length).all p) ∧ Ext NoB w w') := by
 refine calls_enter Try.func89 rfl fun a0 hA0 => ?_
 replace hA0 : Fr 9 [] [(0, v), (1, (Value.func (.func fid) fs cs))] a0 := hA0
 have hS0 : Sep NoB w w [(sl v 3 xs.length (vtrips (runV lv xs)))] := sep_ro ⟨rfl, hv, trivial⟩
 refine c_seq ?_
 refine c_region ?_
 refine stw hA0 (op_box hS0 rfl (hA0.ev rfl) (cs := [(Value.func (.func fid) fs cs)]) rfl) rfl rfl (by decide) ?_
 rintro a1 _ w3 ⟨b4, rfl, hS5⟩ hA2; clear hA0 hS0 a0
 refine st hA2 (op_assign rfl (evc _ _)) rfl rfl (by decide) fun a6 hA7 => ?_; clear hA2 a1
 refine wl_nil ?_
 refine then_n ?_
 refine c_seq ?_
 refine c_region ?_
 refine st hA7 (op_move rfl (hA7.ev rfl)) rfl rfl (by decide) fun a8 hA9 => ?_; clear hA7 a6
 refine st hA9 (op_makeFunc rfl ev0 (ev1 (hA9.ev rfl))) rfl rfl (by decide) fun a10 hA11 => ?_; clear hA9 a8
 refine stw hA11 (op_call rfl en_100 (ev2 (hA11.ev rfl) (hA11.ev rfl)) (contf_run xs lv hlv _ 101 #[] #[(bptr b4 0)] (fun i => !p i) _ (hS5.ok 1 _ rfl) hlen ⟨en_101, fun i hi W hW => clo_run _ (hone i hi) _ _ _ _ _ _ (p i) W ((hS5.step hW).bk 0 rfl) hf.1 (fun W' hW' => hf.2 i hi W' (hS5.ext.trans (hW.trans hW')))⟩)) rfl rfl (by decide) ?_
 rintro a12 _ w14 ⟨rfl, hE15⟩ hA13; have hS16 := hS5.step hE15; clear hE15 hA11 hS5 a10
 refine st hA13 (op_not rfl (hA13.ev rfl)) rfl rfl (by decide) fun a17 hA18 => ?_; clear hA13 a12
 refine st hA18 (op_assign rfl (hA18.ev rfl)) rfl rfl (by decide) fun a19 hA20 => ?_; clear hA18 a17
 refine wl_nil ?_
 refine then_n ?_
 refine c_ret ?_
 refine fin_run hA20 (.inl rfl) (run_results1 hA20 rfl (.tmp rfl)) ?_
 exact ⟨congrArg Value.bool (any_not p xs.length), hS16.ext⟩
theorem indexf_int (xs : List Int) (v : Value) (fid : Nat) (fs cs : Array Value) (p : Nat → Bool) (w : World) (hv : SlAt w v 1 xs.length (ints xs)) (hlen : xs.length ≤ 1000000) (hf : Asks Try.prog w fid fs cs xs.length (fun i => (Value.int .i64 (xs.getD i 0))) p) :
  Calls Try.prog 102 #[v, (Value.func (.func fid) fs cs)] w (Ret fun v w' => v = .int .i64 (fidx p xs.length) ∧ Ext NoB w w') := by
 refine calls_enter Try.func102 rfl fun a0 hA0 => ?_
 replace hA0 : Fr 19 [] [(0, v), (1, (Value.func (.func fid) fs cs))] a0 := hA0
 have hS0 : Sep NoB w w [(sl v 1 xs.length (ints xs))] := sep_ro ⟨rfl, hv, trivial⟩
 refine c_seq ?_
 refine c_region ?_
 refine st hA0 (op_assign rfl (evc _ _)) rfl rfl (by decide) fun a1 hA2 => ?_; clear hA0 a0
 refine wl_nil ?_
 refine then_n ?_
 refine c_seq ?_
 refine c_seq ?_
 refine c_region ?_
 refine st hA2 (op_move rfl (hA2.ev rfl)) rfl rfl (by decide) fun a3 hA4 => ?_; clear hA2 a1
 refine st hA4 (op_lenS rfl un_40 (hA4.ev rfl) (hS0.ok 0 _ rfl)) rfl rfl (by decide) fun a5 hA6 => ?_; clear hA4 a3
 refine st hA6 (op_move rfl (evc _ _)) rfl rfl (by decide) fun a7 hA8 => ?_; clear hA6 a5
 refine wl_nil ?_
 refine then_n ?_
 refine c_block ?_
 have hA9 := hA8.as [(8, (Value.int .i64 0)), (7, (Value.int .i64 (xs.length : Int))), (0, v), (1, (Value.func (.func fid) fs cs))] rfl; clear hA8
 refine c_loop (G := Nat) (fun (k : Nat) a_ w_ => Fr 19 [] [(8, (Value.int .i64 (k : Int))), (7, (Value.int .i64 (xs.length : Int))), (0, v), (1, (Value.func (.func fid) fs cs))] a_ ∧ Sep NoB w w_ [(sl v 1 xs.length (ints xs))] ∧ (k ≤ xs.length) ∧ (∀ i, i < k → p i = false)) (fun k => xs.length - k) 0 ⟨hA9.as _ rfl, hS0, by omega, by omega⟩ ?_
 clear hA9 hS0 a7
 rintro k a10 w12 ⟨hA11, hS13, hk, hn⟩
 refine c_seq ?_
 refine c_region ?_
 refine st hA11 (op_lss rfl (hA11.ev rfl) (hA11.ev rfl)) rfl rfl (by decide) fun a14 hA15 => ?_; clear hA11 a10
 refine wl_nil ?_
 refine then_n ?_
 refine c_seq ?_
 by_cases hb16 : (k : Int) < (xs.length : Int)
 ·skip
  rw [decide_eq_true hb16] at hA15
  refine c_true hA15 rfl ?_
  refine c_skip ?_
  refine then_n ?_
  refine c_seq ?_
  refine c_block ?_
  refine c_seq ?_
  refine c_region ?_
  refine st hA15 (op_move rfl (hA15.ev rfl)) rfl rfl (by decide) fun a17 hA18 => ?_; clear hA15 a14
  refine st hA18 (op_assign rfl (hA18.ev rfl)) rfl rfl (by decide) fun a19 hA20 => ?_; clear hA18 a17
  refine wl_nil ?_
  refine then_n ?_
  refine c_seq ?_
  refine c_region ?_
  refine st hA20 (op_move rfl (hA20.ev rfl)) rfl rfl (by decide) fun a21 hA22 => ?_; clear hA20 a19
  refine st hA22 (op_move rfl (hA22.ev rfl)) rfl rfl (by decide) fun a23 hA24 => ?_; clear hA22 a21
  refine st hA24 (op_move rfl (hA24.ev rfl)) rfl rfl (by decide) fun a25 hA26 => ?_; clear hA24 a23
  refine st hA26 (op_indexS rfl un_40 ty_3 (hA26.ev rfl) (i := k) (hA26.ev rfl) (hS13.ok 0 _ rfl) (by decide) (by omega)) rfl rfl (by decide) fun a27 hA28 => ?_; clear hA26 a25
  refine st hA28 (op_load1E rfl ty_3 (hA28.ev rfl) (hS13.ok 0 _ rfl) (ints_at (by omega))) rfl rfl (by decide) fun a29 hA30 => ?_; clear hA28 a27
  refine stw hA30 (op_callv rfl (hA30.ev rfl) hf.1 (ev1 (hA30.ev rfl)) (hf.2 k (by omega) _ hS13.ext)) rfl rfl (by decide) ?_
  rintro a31 _ w33 ⟨rfl, hE34⟩ hA32; have hS35 := hS13.step hE34; clear hA30 hS13 a29
  refine wl_nil ?_
  refine then_n ?_
  rcases Bool.eq_false_or_eq_true (p k) with hb36 | hb36
  ·skip
   rw [hb36] at hA32
   refine c_true hA32 rfl ?_
   refine c_seq ?_
   have hA37 := hA32.as [(5, (Value.int .i64 (k : Int)))] rfl; clear hA32
   refine c_region ?_
   refine st hA37 (op_move rfl (hA37.ev rfl)) rfl rfl (by decide) fun a38 hA39 => ?_; clear hA37 a31
   refine st hA39 (op_assign rfl (hA39.ev rfl)) rfl rfl (by decide) fun a40 hA41 => ?_; clear hA39 a38
   refine wl_nil ?_
   refine then_n ?_
   refine c_ret ?_
   refine blk_ret ?_
   refine then_ret ?_
   refine then_ret ?_
   refine blk_ret ?_
   refine then_ret ?_
   refine fin_run hA41 (.inl rfl) (run_results1 hA41 rfl (.tmp rfl)) ?_
   exact ⟨by first | rw [fidx_hit (by omega) hn (by assumption)] | rw [fidx_miss (fun i hi => hn i (by omega))], hS35.ext⟩
  ·skip
   rw [hb36] at hA32
   refine c_false hA32 rfl ?_
   refine c_skip ?_
   refine blk_n ?_
   refine then_n ?_
   have hA42 := hA32.as [(8, (Value.int .i64 (k : Int))), (7, (Value.int .i64 (xs.length : Int))), (0, v), (1, (Value.func (.func fid) fs cs))] rfl; clear hA32
   refine c_region ?_
   refine st hA42 (op_add rfl (hA42.ev rfl) (evc _ _) (by omega) (by omega)) rfl rfl (by decide) fun a43 hA44 => ?_; clear hA42 a31
   refine st hA44 (op_move rfl (hA44.ev rfl)) rfl rfl (by decide) fun a45 hA46 => ?_; clear hA44 a43
   refine wl_nil ?_
   exact then_n ⟨k + 1, ⟨hA46.as _ rfl, hS35, by omega, (fun i hi => by rcases Nat.lt_succ_iff_lt_or_eq.1 hi with h | h; exact hn i h; subst h; assumption)⟩, by omega⟩
 ·skip
  rw [decide_eq_false hb16] at hA15
  refine c_false hA15 rfl ?_
  refine c_exit ?_
  refine then_exit ?_
  refine then_exit ?_
  refine blk_hit ?_
  refine then_n ?_
  refine c_seq ?_
  refine c_region ?_
  refine st hA15 (op_assign rfl (evc _ _)) rfl rfl (by decide) fun a47 hA48 => ?_; clear hA15 a14
  refine wl_nil ?_
  refine then_n ?_
  refine c_ret ?_
  refine fin_run hA48 (.inl rfl) (run_results1 hA48 rfl (.tmp rfl)) ?_
  exact ⟨by first | rw [fidx_hit (by omega) hn (by assumption)] | rw [fidx_miss (fun i hi => hn i (by omega))], hS13.ext⟩
theorem contf_int (xs : List Int) (v : Value) (fid : Nat) (fs cs : Array Value) (p : Nat → Bool) (w : World) (hv : SlAt w v 1 xs.length (ints xs)) (hlen : xs.length ≤ 1000000) (hf : Asks Try.prog w fid fs cs xs.length (fun i => (Value.int .i64 (xs.getD i 0))) p) :
  Calls Try.prog 93 #[v, (Value.func (.func fid) fs cs)] w (Ret fun v w' => v = .bool ((List.range xs.length).any p) ∧ Ext NoB w w') := by
 refine calls_enter Try.func93 rfl fun a0 hA0 => ?_
 replace hA0 : Fr 9 [] [(0, v), (1, (Value.func (.func fid) fs cs))] a0 := hA0
 have hS0 : Sep NoB w w [(sl v 1 xs.length (ints xs))] := sep_ro ⟨rfl, hv, trivial⟩
 refine c_seq ?_
 refine c_region ?_
 refine st hA0 (op_assign rfl (evc _ _)) rfl rfl (by decide) fun a1 hA2 => ?_; clear hA0 a0
 refine wl_nil ?_
 refine then_n ?_
 refine c_seq ?_
 refine c_region ?_
 refine st hA2 (op_move rfl (hA2.ev rfl)) rfl rfl (by decide) fun a3 hA4 => ?_; clear hA2 a1
 refine st hA4 (op_move rfl (hA4.ev rfl)) rfl rfl (by decide) fun a5 hA6 => ?_; clear hA4 a3
 refine stw hA6 (op_call rfl en_102 (ev2 (hA6.ev rfl) (hA6.ev rfl)) (indexf_int xs _ _ _ _ p _ (hS0.ok 0 _ rfl) hlen (hf.step hS0.ext))) rfl rfl (by decide) ?_
 rintro a7 _ w9 ⟨rfl, hE10⟩ hA8; have hS11 := hS0.step hE10; clear hE10 hA6 hS0 a5
 refine st hA8 (op_geq rfl (hA8.ev rfl) (evc _ _)) rfl rfl (by decide) fun a12 hA13 => ?_; clear hA8 a7
 refine st hA13 (op_assign rfl (hA13.ev rfl)) rfl rfl (by decide) fun a14 hA15 => ?_; clear hA13 a12
 refine wl_nil ?_
 refine then_n ?_
 refine c_ret ?_
 refine fin_run hA15 (.inl rfl) (run_results1 hA15 rfl (.tmp rfl)) ?_
 exact ⟨congrArg Value.bool (fidx_any p xs.length), hS11.ext⟩
theorem clo_int (x : Int) (b fid : Nat) (fs cs : Array Value) (q : Bool) (w : World) (hb : (blk b 124 [.func (.func fid) fs cs]).p w) (hen : ∀ args W, (callFunc fid args).run Try.prog W = .ok (.enter fid args) W) (hf : ∀ W, Ext NoB w W → Calls Try.prog fid (fs ++ #[(Value.int .i64 x)] ++ cs) W (Ret fun v w' => v = .bool q ∧ Ext NoB W w')) :
  Calls Try.prog 94 #[(Value.int .i64 x), (bptr b 0)] w (Ret fun v w' => v = .bool (!q) ∧ Ext NoB w w') := by
 refine calls_enter Try.func94 rfl fun a0 hA0 => ?_
 replace hA0 : Fr 8 [] [(0, (Value.int .i64 x)), (1, (bptr b 0))] a0 := hA0
 have hS0 : Sep NoB w w [(rob b 124 [(Value.func (.func fid) fs cs)])] := sep_ro ⟨rfl, hb, trivial⟩
 refine c_seq ?_
 refine c_region ?_
 refine st hA0 (op_assign rfl (evc _ _)) rfl rfl (by decide) fun a1 hA2 => ?_; clear hA0 a0
 refine wl_nil ?_
 refine then_n ?_
 refine c_seq ?_
 refine c_region ?_
 refine st hA2 (op_load1 rfl ty_124 (hA2.ev rfl) (hS0.rk 0 rfl) rfl) rfl rfl (by decide) fun a3 hA4 => ?_; clear hA2 a1
 refine st hA4 (op_move rfl (hA4.ev rfl)) rfl rfl (by decide) fun a5 hA6 => ?_; clear hA4 a3
 refine stw hA6 (op_callv rfl (hA6.ev rfl) hen (ev1 (hA6.ev rfl)) (hf _ hS0.ext)) rfl rfl (by decide) ?_
 rintro a7 _ w9 ⟨rfl, hE10⟩ hA8; have hS11 := hS0.step hE10; clear hA6 hS0 a5
 refine st hA8 (op_not rfl (hA8.ev rfl)) rfl rfl (by decide) fun a12 hA13 => ?_; clear hA8 a7
 refine st hA13 (op_assign rfl (hA13.ev rfl)) rfl rfl (by decide) fun a14 hA15 => ?_; clear hA13 a12
 refine wl_nil ?_
 refine then_n ?_
 refine c_ret ?_
 refine fin_run hA15 (.inl rfl) (run_results1 hA15 rfl (.tmp rfl)) ?_
 exact ⟨rfl, hS11.ext⟩
theorem all_int (xs : List Int) (v : Value) (fid : Nat) (fs cs : Array Value) (p : Nat → Bool) (w : World) (hv : SlAt w v 1 xs.length (ints xs)) (hlen : xs.length ≤ 1000000) (hf : Asks Try.prog w fid fs cs xs.length (fun i => (Value.int .i64 (xs.getD i 0))) p) :
  Calls Try.prog 74 #[v, (Value.func (.func fid) fs cs)] w (Ret fun v w' => v = .bool ((List.range xs.length).all p) ∧ Ext NoB w w') := by
 refine calls_enter Try.func74 rfl fun a0 hA0 => ?_
 replace hA0 : Fr 9 [] [(0, v), (1, (Value.func (.func fid) fs cs))] a0 := hA0
 have hS0 : Sep NoB w w [(sl v 1 xs.length (ints xs))] := sep_ro ⟨rfl, hv, trivial⟩
 refine c_seq ?_
 refine c_region ?_
 refine stw hA0 (op_box hS0 rfl (hA0.ev rfl) (cs := [(Value.func (.func fid) fs cs)]) rfl) rfl rfl (by decide) ?_
 rintro a1 _ w3 ⟨b4, rfl, hS5⟩ hA2; clear hA0 hS0 a0
 refine st hA2 (op_assign rfl (evc _ _)) rfl rfl (by decide) fun a6 hA7 => ?_; clear hA2 a1
 refine wl_nil ?_
 refine then_n ?_
 refine c_seq ?_
 refine c_region ?_
 refine st hA7 (op_move rfl (hA7.ev rfl)) rfl rfl (by decide) fun a8 hA9 => ?_; clear hA7 a6
 refine st hA9 (op_makeFunc rfl ev0 (ev1 (hA9.ev rfl))) rfl rfl (by decide) fun a10 hA11 => ?_; clear hA9 a8
 refine stw hA11 (op_call rfl en_93 (ev2 (hA11.ev rfl) (hA11.ev rfl)) (contf_int xs _ 94 #[] #[(bptr b4 0)] (fun i => !p i) _ (hS5.ok 1 _ rfl) hlen ⟨en_94, fun i hi W hW => clo_int _ _ _ _ _ (p i) W ((hS5.step hW).bk 0 rfl) hf.1 (fun W' hW' => hf.2 i hi W' (hS5.ext.trans (hW.trans hW')))⟩)) rfl rfl (by decide) ?_
 rintro a12 _ w14 ⟨rfl, hE15⟩ hA13; have hS16 := hS5.step hE15; clear hE15 hA11 hS5 a10
 refine st hA13 (op_not rfl (hA13.ev rfl)) rfl rfl (by decide) fun a17 hA18 => ?_; clear hA13 a12
 refine st hA18 (op_assign rfl (hA18.ev rfl)) rfl rfl (by decide) fun a19 hA20 => ?_; clear hA18 a17
 refine wl_nil ?_
 refine then_n ?_
 refine c_ret ?_
 refine fin_run hA20 (.inl rfl) (run_results1 hA20 rfl (.tmp rfl)) ?_
 exact ⟨congrArg Value.bool (any_not p xs.length), hS16.ext⟩
theorem indexf_sls (xs : List Value) (v : Value) (fid : Nat) (fs cs : Array Value) (p : Nat → Bool) (w : World) (hv : SlAt w v 1 xs.length xs) (hlen : xs.length ≤ 1000000) (hf : Asks Try.prog w fid fs cs xs.length (fun i => (xs.getD i nilS)) p) :
  Calls Try.prog 92 #[v, (Value.func (.func fid) fs cs)] w (Ret fun v w' => v = .int .i64 (fidx p xs.length) ∧ Ext NoB w w') := by
 refine calls_enter Try.func92 rfl fun a0 hA0 => ?_
 replace hA0 : Fr 19 [] [(0, v), (1, (Value.func (.func fid) fs cs))] a0 := hA0
 have hS0 : Sep NoB w w [(sl v 1 xs.length xs)] := sep_ro ⟨rfl, hv, trivial⟩
 refine c_seq ?_
 refine c_region ?_
 refine st hA0 (op_assign rfl (evc _ _)) rfl rfl (by decide) fun a1 hA2 => ?_; clear hA0 a0
 refine wl_nil ?_
 refine then_n ?_
 refine c_seq ?_
 refine c_seq ?_
 refine c_region ?_
 refine st hA2 (op_move rfl (hA2.ev rfl)) rfl rfl (by decide) fun a3 hA4 => ?_; clear hA2 a1
 refine st hA4 (op_lenS rfl un_38 (hA4.ev rfl) (hS0.ok 0 _ rfl)) rfl rfl (by decide) fun a5 hA6 => ?_; clear hA4 a3
 refine st hA6 (op_move rfl (evc _ _)) rfl rfl (by decide) fun a7 hA8 => ?_; clear hA6 a5
 refine wl_nil ?_
 refine then_n ?_
 refine c_block ?_
 have hA9 := hA8.as [(8, (Value.int .i64 0)), (7, (Value.int .i64 (xs.length : Int))), (0, v), (1, (Value.func (.func fid) fs cs))] rfl; clear hA8
 refine c_loop (G := Nat) (fun (k : Nat) a_ w_ => Fr 19 [] [(8, (Value.int .i64 (k : Int))), (7, (Value.int .i64 (xs.length : Int))), (0, v), (1, (Value.func (.func fid) fs cs))] a_ ∧ Sep NoB w w_ [(sl v 1 xs.length xs)] ∧ (k ≤ xs.length) ∧ (∀ i, i < k → p i = false)) (fun k => xs.length - k) 0 ⟨hA9.as _ rfl, hS0, by omega, by omega⟩ ?_
 clear hA9 hS0 a7
 rintro k a10 w12 ⟨hA11, hS13, hk, hn⟩
 refine c_seq ?_
 refine c_region ?_
 refine st hA11 (op_lss rfl (hA11.ev rfl) (hA11.ev rfl)) rfl rfl (by decide) fun a14 hA15 => ?_; clear hA11 a10
 refine wl_nil ?_
 refine then_n ?_
 refine c_seq ?_
 by_cases hb16 : (k : Int) < (xs.length : Int)
 ·skip
  rw [decide_eq_true hb16] at hA15
  refine c_true hA15 rfl ?_
  refine c_skip ?_
  refine then_n ?_
  refine c_seq ?_
  refine c_block ?_
  refine c_seq ?_
  refine c_region ?_
  refine st hA15 (op_move rfl (hA15.ev rfl)) rfl rfl (by decide) fun a17 hA18 => ?_; clear hA15 a14
  refine st hA18 (op_assign rfl (hA18.ev rfl)) rfl rfl (by decide) fun a19 hA20 => ?_; clear hA18 a17
  refine wl_nil ?_
  refine then_n ?_
  refine c_seq ?_
  refine c_region ?_
  refine st hA20 (op_move rfl (hA20.ev rfl)) rfl rfl (by decide) fun a21 hA22 => ?_; clear hA20 a19
  refine st hA22 (op_move rfl (hA22.ev rfl)) rfl rfl (by decide) fun a23 hA24 => ?_; clear hA22 a21
  refine st hA24 (op_move rfl (hA24.ev rfl)) rfl rfl (by decide) fun a25 hA26 => ?_; clear hA24 a23
  refine st hA26 (op_indexS rfl un_38 ty_40 (hA26.ev rfl) (i := k) (hA26.ev rfl) (hS13.ok 0 _ rfl) (by decide) (by omega)) rfl rfl (by decide) fun a27 hA28 => ?_; clear hA26 a25
  refine st hA28 (op_load1E rfl ty_40 (hA28.ev rfl) (hS13.ok 0 _ rfl) (vals_at (by omega))) rfl rfl (by decide) fun a29 hA30 => ?_; clear hA28 a27
  refine stw hA30 (op_callv rfl (hA30.ev rfl) hf.1 (ev1 (hA30.ev rfl)) (hf.2 k (by omega) _ hS13.ext)) rfl rfl (by decide) ?_
  rintro a31 _ w33 ⟨rfl, hE34⟩ hA32; have hS35 := hS13.step hE34; clear hA30 hS13 a29
  refine wl_nil ?_
  refine then_n ?_
  rcases Bool.eq_false_or_eq_true (p k) with hb36 | hb36
  ·skip
   rw [hb36] at hA32
   refine c_true hA32 rfl ?_
   refine c_seq ?_
   have hA37 := hA32.as [(5, (Value.int .i64 (k : Int)))] rfl; clear hA32
   refine c_region ?_
   refine st hA37 (op_move rfl (hA37.ev rfl)) rfl rfl (by decide) fun a38 hA39 => ?_; clear hA37 a31
   refine st hA39 (op_assign rfl (hA39.ev rfl)) rfl rfl (by decide) fun a40 hA41 => ?_; clear hA39 a38
   refine wl_nil ?_
   refine then_n ?_
   refine c_ret ?_
   refine blk_ret ?_
   refine then_ret ?_
   refine then_ret ?_
   refine blk_ret ?_
   refine then_ret ?_
   refine fin_run hA41 (.inl rfl) (run_results1 hA41 rfl (.tmp rfl)) ?_
   exact ⟨by first | rw [fidx_hit (by omega) hn (by assumption)] | rw [fidx_miss (fun i hi => hn i (by omega))], hS35.ext⟩
  ·skip
   rw [hb36] at hA32
   refine c_false hA32 rfl ?_
   refine c_skip ?_
   refine blk_n ?_
   refine then_n ?_
   have hA42 := hA32.as [(8, (Value.int .i64 (k : Int))), (7, (Value.int .i64 (xs.length : Int))), (0, v), (1, (Value.func (.func fid) fs cs))] rfl; clear hA32
   refine c_region ?_
   refine st hA42 (op_add rfl (hA42.ev rfl) (evc _ _) (by omega) (by omega)) rfl rfl (by decide) fun a43 hA44 => ?_; clear hA42 a31
   refine st hA44 (op_move rfl (hA44.ev rfl)) rfl rfl (by decide) fun a45 hA46 => ?_; clear hA44 a43
   refine wl_nil ?_
   exact then_n ⟨k + 1, ⟨hA46.as _ rfl, hS35, by omega, (fun i hi => by rcases Nat.lt_succ_iff_lt_or_eq.1 hi with h | h; exact hn i h; subst h; assumption)⟩, by omega⟩
 ·skip
  rw [decide_eq_false hb16] at hA15
  refine c_false hA15 rfl ?_
  refine c_exit ?_
  refine then_exit ?_
  refine then_exit ?_
  refine blk_hit ?_
  refine then_n ?_
  refine c_seq ?_
  refine c_region ?_
  refine st hA15 (op_assign rfl (evc _ _)) rfl rfl (by decide) fun a47 hA48 => ?_; clear hA15 a14
  refine wl_nil ?_
  refine then_n ?_
  refine c_ret ?_
  refine fin_run hA48 (.inl rfl) (run_results1 hA48 rfl (.tmp rfl)) ?_
  exact ⟨by first | rw [fidx_hit (by omega) hn (by assumption)] | rw [fidx_miss (fun i hi => hn i (by omega))], hS13.ext⟩
theorem contf_sls (xs : List Value) (v : Value) (fid : Nat) (fs cs : Array Value) (p : Nat → Bool) (w : World) (hv : SlAt w v 1 xs.length xs) (hlen : xs.length ≤ 1000000) (hf : Asks Try.prog w fid fs cs xs.length (fun i => (xs.getD i nilS)) p) :
  Calls Try.prog 72 #[v, (Value.func (.func fid) fs cs)] w (Ret fun v w' => v = .bool ((List.range xs.length).any p) ∧ Ext NoB w w') := by
 refine calls_enter Try.func72 rfl fun a0 hA0 => ?_
 replace hA0 : Fr 9 [] [(0, v), (1, (Value.func (.func fid) fs cs))] a0 := hA0
 have hS0 : Sep NoB w w [(sl v 1 xs.length xs)] := sep_ro ⟨rfl, hv, trivial⟩
 refine c_seq ?_
 refine c_region ?_
 refine st hA0 (op_assign rfl (evc _ _)) rfl rfl (by decide) fun a1 hA2 => ?_; clear hA0 a0
 refine wl_nil ?_
 refine then_n ?_
 refine c_seq ?_
 refine c_region ?_
 refine st hA2 (op_move rfl (hA2.ev rfl)) rfl rfl (by decide) fun a3 hA4 => ?_; clear hA2 a1
 refine st hA4 (op_move rfl (hA4.ev rfl)) rfl rfl (by decide) fun a5 hA6 => ?_; clear hA4 a3
 refine stw hA6 (op_call rfl en_92 (ev2 (hA6.ev rfl) (hA6.ev rfl)) (indexf_sls xs _ _ _ _ p _ (hS0.ok 0 _ rfl) hlen (hf.step hS0.ext))) rfl rfl (by decide) ?_
 rintro a7 _ w9 ⟨rfl, hE10⟩ hA8; have hS11 := hS0.step hE10; clear hE10 hA6 hS0 a5
 refine st hA8 (op_geq rfl (hA8.ev rfl) (evc _ _)) rfl rfl (by decide) fun a12 hA13 => ?_; clear hA8 a7
 refine st hA13 (op_assign rfl (hA13.ev rfl)) rfl rfl (by decide) fun a14 hA15 => ?_; clear hA13 a12
 refine wl_nil ?_
 refine then_n ?_
 refine c_ret ?_
 refine fin_run hA15 (.inl rfl) (run_results1 hA15 rfl (.tmp rfl)) ?_
 exact ⟨congrArg Value.bool (fidx_any p xs.length), hS11.ext⟩
end Go.Proofs.Ytkkglkdnnfegkaa

namespace Go.Proofs.Ytkkglkdnnfegkaa
open Go.RowKit Go.Shelf Go.Eng
theorem ze_67 : (Try.prog.info? 67).bind (·.zero) = some (Value.agg #[(Value.int .i64 0), (Value.int .i64 0), (Value.int .i64 0)]) := by kernel_rfl
theorem fd_67_0 : fldK Try.prog 67 0 = some 0 := by kernel_rfl
theorem un_104 : Try.prog.underlying 104 = some (.array 3 3) := by kernel_rfl
theorem fd_133_0 : fldK Try.prog 133 0 = some 0 := by kernel_rfl
theorem ty_130 : tyK Try.prog 130 = some (false, 1) := by kernel_rfl
theorem fd_67_1 : fldK Try.prog 67 1 = some 1 := by kernel_rfl
theorem ze_3 : (Try.prog.info? 3).bind (·.zero) = some (Value.int .i64 0) := by kernel_rfl
theorem mixed : Try.prog.follows .mixedOrders = true := by kernel_rfl
theorem en_82 : ∀ args w, (callFunc 82 args).run Try.prog w = .ok (.enter 82 args) w := enters_of Try.func82 (by kernel_rfl) rfl
theorem bs_3_1_0i (x0_0 : Int) : Instr.fill (fun i => some (i * 1, 1)) ((Array.range (1 * 1)).map ((Value.int .i64 0).cells[· % (Value.int .i64 0).cells.size]!)) [(0, (.int .i64 x0_0))] = some (([(.int .i64 x0_0)] : List Value).toArray) := by kernel_rfl
theorem el_3 : elK Try.prog 3 = some ((Value.int .i64 0), 1, 8) := by kernel_rfl
theorem en_98 : ∀ args w, (callFunc 98 args).run Try.prog w = .ok (.enter 98 args) w := enters_of Try.func98 (by kernel_rfl) rfl
theorem en_83 : ∀ args w, (callFunc 83 args).run Try.prog w = .ok (.enter 83 args) w := enters_of Try.func83 (by kernel_rfl) rfl
theorem at_lo (segs : List Seg) (vs : Value) (r : List Int) (n : Nat) (w : World) (hv : SlAt w vs 3 segs.length (trips segs)) (hlen : segs.length ≤ 8) (hn : n ≤ 3) (hr : RatesV r) (hs : ∀ i, i < segs.length → SegV n (segs.getD i (0, 0, 0))) :
  Calls Try.prog 81 #[vs, (Value.agg (ints r).toArray), (Value.agg #[(Value.func (.func 82) #[] #[])])] w (Ret fun v w' => v = .int .i64 (atF segs r Prod.fst) ∧ Ext NoB w w') := by
 refine calls_enter Try.func81 rfl fun a0 hA0 => ?_
 replace hA0 : Fr 32 [] [(0, vs), (1, (Value.agg (ints r).toArray)), (2, (Value.agg #[(Value.func (.func 82) #[] #[])]))] a0 := hA0
 have hr3 := hr.1
 have hS0 : Sep NoB w w [(sl vs 3 segs.length (trips segs))] := sep_ro ⟨rfl, hv, trivial⟩
 refine c_seq ?_
 refine c_region ?_
 refine stw hA0 (op_box hS0 rfl (hA0.ev rfl) (cs := (ints r)) rfl) rfl rfl (by decide) ?_
 rintro a1 _ w3 ⟨b4, rfl, hS5⟩ hA2; clear hA0 hS0 a0
 refine stw hA2 (op_box hS5 rfl (hA2.ev rfl) (cs := [(Value.func (.func 82) #[] #[])]) rfl) rfl rfl (by decide) ?_
 rintro a6 _ w8 ⟨b9, rfl, hS10⟩ hA7; clear hA2 hS5 a1
 refine st hA7 (op_assign rfl (evc _ _)) rfl rfl (by decide) fun a11 hA12 => ?_; clear hA7 a6
 refine wl_nil ?_
 refine then_n ?_
 refine c_seq ?_
 refine c_region ?_
 refine st hA12 (op_assign rfl (evc _ _)) rfl rfl (by decide) fun a13 hA14 => ?_; clear hA12 a11
 have hS15 := hS10.nil_row 3 1; clear hS10
 refine wl_nil ?_
 refine then_n ?_
 refine c_seq ?_
 refine c_seq ?_
 refine c_region ?_
 refine st hA14 (op_move rfl (hA14.ev rfl)) rfl rfl (by decide) fun a16 hA17 => ?_; clear hA14 a13
 refine st hA17 (op_lenS rfl un_58 (hA17.ev rfl) (hS15.sk 3 rfl)) rfl rfl (by decide) fun a18 hA19 => ?_; clear hA17 a16
 refine st hA19 (op_move rfl (evc _ _)) rfl rfl (by decide) fun a20 hA21 => ?_; clear hA19 a18
 refine wl_nil ?_
 refine then_n ?_
 refine c_block ?_
 have hA22 := hA21.as [(12, (Value.int .i64 0)), (11, (Value.int .i64 (segs.length : Int))), (10, vs), (7, (Value.slice none 0 0)), (5, (bptr b9 0)), (4, (bptr b4 0))] rfl; clear hA21
 refine c_loop (G := Nat) (fun (k : Nat) a_ w_ => ∃ v7_ : Value, Fr 32 [] [(12, (Value.int .i64 (k : Int))), (11, (Value.int .i64 (segs.length : Int))), (10, vs), (7, v7_), (5, (bptr b9 0)), (4, (bptr b4 0))] a_ ∧ Sep NoB w w_ [(row v7_ 3 1 ((prodUpto segs r Prod.fst k).length) (ints (prodUpto segs r Prod.fst k))), (blk b9 133 [(Value.func (.func 82) #[] #[])]), (blk b4 104 (ints r)), (sl vs 3 segs.length (trips segs))] ∧ (k ≤ segs.length)) (fun k => segs.length - k) 0 ⟨(Value.slice none 0 0), hA22.as _ rfl, hS15, by omega⟩ ?_
 clear hA22 hS15 a20
 rintro k a23 w25 ⟨v7_, hA24, hS26, hk⟩
 have hpl := prodUpto_len segs r Prod.fst k
 refine c_seq ?_
 refine c_region ?_
 refine st hA24 (op_lss rfl (hA24.ev rfl) (hA24.ev rfl)) rfl rfl (by decide) fun a27 hA28 => ?_; clear hA24 a23
 refine wl_nil ?_
 refine then_n ?_
 refine c_seq ?_
 by_cases hb29 : (k : Int) < (segs.length : Int)
 ·skip
  rw [decide_eq_true hb29] at hA28
  have hsk := hs k (by omega); have hsb := hsk.b; have hsh := hsk.h; have hrk := hr.2 (segs.getD k (0, 0, 0)).1.toNat; have hmb := mul_bd hrk (b := Prod.fst (segs.getD k (0, 0, 0)).2) (by constructor <;> (try simp only []) <;> omega); try dsimp only at hmb
  refine c_true hA28 rfl ?_
  refine c_skip ?_
  refine then_n ?_
  refine c_seq ?_
  refine c_block ?_
  refine c_seq ?_
  refine c_region ?_
  refine st hA28 (op_indexS rfl un_58 ty_67 (hA28.ev rfl) (i := k) (hA28.ev rfl) (hS26.sk 3 rfl) (by decide) (by omega)) rfl rfl (by decide) fun a30 hA31 => ?_; clear hA28 a27
  refine st hA31 (op_loadAE rfl ty_67 (hA31.ev rfl) (hS26.sk 3 rfl) (trips_all (by omega)) rfl (by decide)) rfl rfl (by decide) fun a32 hA33 => ?_; clear hA31 a30
  refine stw hA33 (op_alloc hS26 rfl ze_67 (cs := [(Value.int .i64 0), (Value.int .i64 0), (Value.int .i64 0)]) rfl) rfl rfl (by decide) ?_
  rintro a34 _ w36 ⟨b37, rfl, hS38⟩ hA35; clear hA33 hS26 a32
  refine sts hA35 (op_store hS38 rfl ty_67 (hA35.ev rfl) (hA35.ev rfl) (i := 0) rfl (vs := [(Value.int .i64 ((segs.getD k (0, 0, 0)).1)), (Value.int .i64 ((segs.getD k (0, 0, 0)).2.1)), (Value.int .i64 ((segs.getD k (0, 0, 0)).2.2))]) rfl rfl rfl (Nat.le_of_ble_eq_true rfl)) rfl rfl ?_
  intro _ w39 hS40 hA41; clear hA35
  have hS42 : Sep NoB w w39 [(blk b37 67 [(Value.int .i64 ((segs.getD k (0, 0, 0)).1)), (Value.int .i64 ((segs.getD k (0, 0, 0)).2.1)), (Value.int .i64 ((segs.getD k (0, 0, 0)).2.2))]), (row v7_ 3 1 ((prodUpto segs r Prod.fst k).length) (ints (prodUpto segs r Prod.fst k))), (blk b9 133 [(Value.func (.func 82) #[] #[])]), (blk b4 104 (ints r)), (sl vs 3 segs.length (trips segs))] := hS40; clear hS40 hS38
  refine wl_nil ?_
  refine then_n ?_
  have hA43 := hA41.as [(9, (bptr b37 0)), (12, (Value.int .i64 (k : Int))), (11, (Value.int .i64 (segs.length : Int))), (10, vs), (7, v7_), (5, (bptr b9 0)), (4, (bptr b4 0))] rfl; clear hA41
  refine c_drawV mixed hA43 hS42 12 [[], [], [1], [2], [3], [], [5], [], [7], [6, 8], [4, 9], [10]] [(fun (vs44 : Nat → Value) (v_ : Value) (rs_ : List Res) => v_ = v7_ ∧ rs_ = []), (fun (vs44 : Nat → Value) (v_ : Value) (rs_ : List Res) => v_ = (bptr b37 0) ∧ rs_ = []), (fun (vs44 : Nat → Value) (v_ : Value) (rs_ : List Res) => v_ = (Value.int .i64 ((segs.getD k (0, 0, 0)).1)) ∧ rs_ = []), (fun (vs44 : Nat → Value) (v_ : Value) (rs_ : List Res) => v_ = (bptr b4 (0 + ((segs.getD k (0, 0, 0)).1).toNat * 1)) ∧ rs_ = []), (fun (vs44 : Nat → Value) (v_ : Value) (rs_ : List Res) => v_ = (Value.int .i64 (r.getD (((segs.getD k (0, 0, 0)).1).toNat) 0)) ∧ rs_ = []), (fun (vs44 : Nat → Value) (v_ : Value) (rs_ : List Res) => v_ = (bptr b9 0) ∧ rs_ = []), (fun (vs44 : Nat → Value) (v_ : Value) (rs_ : List Res) => v_ = (Value.func (.func 82) #[] #[]) ∧ rs_ = []), (fun (vs44 : Nat → Value) (v_ : Value) (rs_ : List Res) => v_ = (bptr b37 1) ∧ rs_ = []), (fun (vs44 : Nat → Value) (v_ : Value) (rs_ : List Res) => v_ = (Value.agg #[(Value.int .i64 ((segs.getD k (0, 0, 0)).2.1)), (Value.int .i64 ((segs.getD k (0, 0, 0)).2.2))]) ∧ rs_ = []), (fun (vs44 : Nat → Value) (v_ : Value) (rs_ : List Res) => v_ = (Value.int .i64 ((segs.getD k (0, 0, 0)).2.1)) ∧ rs_ = []), (fun (vs44 : Nat → Value) (v_ : Value) (rs_ : List Res) => v_ = (Value.int .i64 ((r.getD (((segs.getD k (0, 0, 0)).1).toNat) 0) * ((segs.getD k (0, 0, 0)).2.1))) ∧ rs_ = []), (fun (vs44 : Nat → Value) (v_ : Value) (rs_ : List Res) => True ∧ rs_ = [(row v_ 3 1 1 [(Value.int .i64 ((r.getD (((segs.getD k (0, 0, 0)).1).toNat) 0) * ((segs.getD k (0, 0, 0)).2.1)))])])] (by decide +kernel) (by decide +kernel) rfl rfl ⟨(fun _ _ _ _ _ h_ => h_), (fun _ _ _ _ _ h_ => h_), (fun _ _ _ _ _ h_ => h_), (fun _ _ _ _ _ h_ => h_), (fun _ _ _ _ _ h_ => h_), (fun _ _ _ _ _ h_ => h_), (fun _ _ _ _ _ h_ => h_), (fun _ _ _ _ _ h_ => h_), (fun _ _ _ _ _ h_ => h_), (fun _ _ _ _ _ h_ => h_), (fun _ _ _ _ _ h_ => h_), (fun _ _ _ _ _ h_ => h_), trivial⟩ ?_ ?_
  ·skip
   refine ⟨fun a w vs44 hA hS hd => ?_, ?_⟩
   ·skip
    exact opG_of rfl (vv (op_move rfl (hA.ev rfl)) (And.intro rfl rfl))
   refine ⟨fun a w vs44 hA hS hd => ?_, ?_⟩
   ·skip
    exact opG_of rfl (vv (op_field rfl fd_67_0 (hA.ev rfl)) (And.intro rfl rfl))
   refine ⟨fun a w vs44 hA hS hd => ?_, ?_⟩
   ·skip
    obtain ⟨e1, rs1, hy1, hp1⟩ := hd 1 (by decide)
    obtain ⟨hv1, hr1⟩ := hy1; subst hr1
    rw [hv1] at e1
    exact opG_of rfl (vv (op_load1 rfl ty_3 (tmp_ev (slot_ev e1 rfl)) (hS.bk 0 rfl) rfl) (And.intro rfl rfl))
   refine ⟨fun a w vs44 hA hS hd => ?_, ?_⟩
   ·skip
    obtain ⟨e2, rs2, hy2, hp2⟩ := hd 2 (by decide)
    obtain ⟨hv2, hr2⟩ := hy2; subst hr2
    rw [hv2] at e2
    exact opG_of rfl (vv (op_indexA rfl un_104 ty_3 (hA.ev rfl) (i := ((segs.getD k (0, 0, 0)).1).toNat) ((tmp_ev (slot_ev e2 rfl)).trans (int_nat (by omega))) (by omega)) (And.intro rfl rfl))
   refine ⟨fun a w vs44 hA hS hd => ?_, ?_⟩
   ·skip
    obtain ⟨e3, rs3, hy3, hp3⟩ := hd 3 (by decide)
    obtain ⟨hv3, hr3⟩ := hy3; subst hr3
    rw [hv3] at e3
    exact opG_of rfl (vv (op_load1 rfl ty_3 (tmp_ev (slot_ev e3 rfl)) (hS.bk 3 rfl) (ints_at' (by first | (simp only [List.length_set]; omega) | omega))) (And.intro rfl rfl))
   refine ⟨fun a w vs44 hA hS hd => ?_, ?_⟩
   ·skip
    exact opG_of rfl (vv (op_field rfl fd_133_0 (hA.ev rfl)) (And.intro rfl rfl))
   refine ⟨fun a w vs44 hA hS hd => ?_, ?_⟩
   ·skip
    obtain ⟨e5, rs5, hy5, hp5⟩ := hd 5 (by decide)
    obtain ⟨hv5, hr5⟩ := hy5; subst hr5
    rw [hv5] at e5
    exact opG_of rfl (vv (op_load1 rfl ty_130 (tmp_ev (slot_ev e5 rfl)) (hS.bk 2 rfl) rfl) (And.intro rfl rfl))
   refine ⟨fun a w vs44 hA hS hd => ?_, ?_⟩
   ·skip
    exact opG_of rfl (vv (op_field rfl fd_67_1 (hA.ev rfl)) (And.intro rfl rfl))
   refine ⟨fun a w vs44 hA hS hd => ?_, ?_⟩
   ·skip
    obtain ⟨e7, rs7, hy7, hp7⟩ := hd 7 (by decide)
    obtain ⟨hv7, hr7⟩ := hy7; subst hr7
    rw [hv7] at e7
    exact opG_of rfl (vv (op_loadA rfl ty_42 (tmp_ev (slot_ev e7 rfl)) (hS.bk 0 rfl) (l := [(Value.int .i64 ((segs.getD k (0, 0, 0)).2.1)), (Value.int .i64 ((segs.getD k (0, 0, 0)).2.2))]) rfl rfl) (And.intro rfl rfl))
   refine ⟨fun a w vs44 hA hS hd => ?_, ?_⟩
   ·skip
    obtain ⟨e6, rs6, hy6, hp6⟩ := hd 6 (by decide)
    obtain ⟨hv6, hr6⟩ := hy6; subst hr6
    rw [hv6] at e6
    obtain ⟨e8, rs8, hy8, hp8⟩ := hd 8 (by decide)
    obtain ⟨hv8, hr8⟩ := hy8; subst hr8
    rw [hv8] at e8
    exact opG_of rfl (vx (op_callv rfl (tmp_ev (slot_ev e6 rfl)) en_82 (ev1 (tmp_ev (slot_ev e8 rfl))) (low_ok _ _ _)) (And.intro rfl rfl))
   refine ⟨fun a w vs44 hA hS hd => ?_, ?_⟩
   ·skip
    obtain ⟨e4, rs4, hy4, hp4⟩ := hd 4 (by decide)
    obtain ⟨hv4, hr4⟩ := hy4; subst hr4
    rw [hv4] at e4
    obtain ⟨e9, rs9, hy9, hp9⟩ := hd 9 (by decide)
    obtain ⟨hv9, hr9⟩ := hy9; subst hr9
    rw [hv9] at e9
    exact opG_of rfl (vv (op_mul rfl (tmp_ev (slot_ev e4 rfl)) (tmp_ev (slot_ev e9 rfl)) (by omega) (by omega)) (And.intro rfl rfl))
   refine ⟨fun a w vs44 hA hS hd => ?_, ?_⟩
   ·skip
    obtain ⟨e10, rs10, hy10, hp10⟩ := hd 10 (by decide)
    obtain ⟨hv10, hr10⟩ := hy10; subst hr10
    rw [hv10] at e10
    exact opG_of rfl (vblt rfl (pv1 (tmp_ev (slot_ev e10 rfl))) un_40 ty_3 ze_3 (by decide) (cs := [(Value.int .i64 ((r.getD (((segs.getD k (0, 0, 0)).1).toNat) 0) * ((segs.getD k (0, 0, 0)).2.1)))]) (bs_3_1_0i _) rfl (by decide) (fun _ => And.intro trivial rfl))
   trivial
  intro a45 w46 vs44 rsf50 hA47 hH49 hS48; clear hA43 hS42
  obtain ⟨hs_0, hy_0⟩ := hH49 0 (by decide)
  obtain ⟨hv_0, hr_0⟩ := hy_0
  obtain ⟨hs_1, hy_1⟩ := hH49 1 (by decide)
  obtain ⟨hv_1, hr_1⟩ := hy_1
  obtain ⟨hs_2, hy_2⟩ := hH49 2 (by decide)
  obtain ⟨hv_2, hr_2⟩ := hy_2
  obtain ⟨hs_3, hy_3⟩ := hH49 3 (by decide)
  obtain ⟨hv_3, hr_3⟩ := hy_3
  obtain ⟨hs_4, hy_4⟩ := hH49 4 (by decide)
  obtain ⟨hv_4, hr_4⟩ := hy_4
  obtain ⟨hs_5, hy_5⟩ := hH49 5 (by decide)
  obtain ⟨hv_5, hr_5⟩ := hy_5
  obtain ⟨hs_6, hy_6⟩ := hH49 6 (by decide)
  obtain ⟨hv_6, hr_6⟩ := hy_6
  obtain ⟨hs_7, hy_7⟩ := hH49 7 (by decide)
  obtain ⟨hv_7, hr_7⟩ := hy_7
  obtain ⟨hs_8, hy_8⟩ := hH49 8 (by decide)
  obtain ⟨hv_8, hr_8⟩ := hy_8
  obtain ⟨hs_9, hy_9⟩ := hH49 9 (by decide)
  obtain ⟨hv_9, hr_9⟩ := hy_9
  obtain ⟨hs_10, hy_10⟩ := hH49 10 (by decide)
  obtain ⟨hv_10, hr_10⟩ := hy_10
  obtain ⟨hs_11, hy_11⟩ := hH49 11 (by decide)
  obtain ⟨hv_11, hr_11⟩ := hy_11
  have hS51 : Sep NoB w w46 [(row (vs44 11) 3 1 1 [(Value.int .i64 ((r.getD (((segs.getD k (0, 0, 0)).1).toNat) 0) * ((segs.getD k (0, 0, 0)).2.1)))]), (blk b37 67 [(Value.int .i64 ((segs.getD k (0, 0, 0)).1)), (Value.int .i64 ((segs.getD k (0, 0, 0)).2.1)), (Value.int .i64 ((segs.getD k (0, 0, 0)).2.2))]), (row v7_ 3 1 ((prodUpto segs r Prod.fst k).length) (ints (prodUpto segs r Prod.fst k))), (blk b9 133 [(Value.func (.func 82) #[] #[])]), (blk b4 104 (ints r)), (sl vs 3 segs.length (trips segs))] := by rw [show catR rsf50 0 12 = ([(row (vs44 11) 3 1 1 [(Value.int .i64 ((r.getD (((segs.getD k (0, 0, 0)).1).toNat) 0) * ((segs.getD k (0, 0, 0)).2.1)))])] : List Res) by (try simp only [catR, hr_0, hr_1, hr_2, hr_3, hr_4, hr_5, hr_6, hr_7, hr_8, hr_9, hr_10, hr_11]); (try rfl)] at hS48; exact hS48
  rw [hv_0] at hs_0
  have hA52 : Fr 32 [] [(16, v7_), (9, (bptr b37 0)), (12, (Value.int .i64 (k : Int))), (11, (Value.int .i64 (segs.length : Int))), (10, vs), (7, v7_), (5, (bptr b9 0)), (4, (bptr b4 0))] a45 := hA47.add (slot_ev hs_0 rfl); clear hA47
  have hA53 : Fr 32 [] [(27, (vs44 11)), (16, v7_), (9, (bptr b37 0)), (12, (Value.int .i64 (k : Int))), (11, (Value.int .i64 (segs.length : Int))), (10, vs), (7, v7_), (5, (bptr b9 0)), (4, (bptr b4 0))] a45 := hA52.add (slot_ev hs_11 rfl); clear hA52
  clear hH49 hS48 hs_0 hs_1 hs_2 hs_3 hs_4 hs_5 hs_6 hs_7 hs_8 hs_9 hs_10 hs_11
  clear hr_0
  clear hv_0
  clear hr_1
  clear hv_1
  clear hr_2
  clear hv_2
  clear hr_3
  clear hv_3
  clear hr_4
  clear hv_4
  clear hr_5
  clear hv_5
  clear hr_6
  clear hv_6
  clear hr_7
  clear hv_7
  clear hr_8
  clear hv_8
  clear hr_9
  clear hv_9
  clear hr_10
  clear hv_10
  clear hr_11
  clear hv_11
  refine stw hA53 (op_append hS51 rfl un_40 el_3 (hA53.ev rfl) (hA53.ev rfl) (i := 2) rfl (SlAt.of_row (hS51.ok_row 0 rfl)) rfl (by simp only [maxLen]; omega) (by omega)) rfl rfl (by decide) ?_
  intro a54 v57 w56 hS58 hA55
  have hS59 := hS58.row_say (i := 2) rfl (n' := ((prodUpto segs r Prod.fst k) ++ [(r.getD (((segs.getD k (0, 0, 0)).1).toNat) 0) * ((segs.getD k (0, 0, 0)).2.1)]).length) (xs' := (ints ((prodUpto segs r Prod.fst k) ++ [(r.getD (((segs.getD k (0, 0, 0)).1).toNat) 0) * ((segs.getD k (0, 0, 0)).2.1)]))) (by simp) (by simp [ints]); clear hS58 hA53 hS51 a45
  refine st hA55 (op_assign rfl (hA55.ev rfl)) rfl rfl (by decide) fun a60 hA61 => ?_; clear hA55 a54
  refine wl_nil ?_
  refine blk_n ?_
  refine then_n ?_
  refine c_region ?_
  refine st hA61 (op_add rfl (hA61.ev rfl) (evc _ _) (by omega) (by omega)) rfl rfl (by decide) fun a62 hA63 => ?_; clear hA61 a60
  refine st hA63 (op_move rfl (hA63.ev rfl)) rfl rfl (by decide) fun a64 hA65 => ?_; clear hA63 a62
  refine wl_nil ?_
  have hS66 : Sep NoB w w56 [(row v57 3 1 (((prodUpto segs r Prod.fst k) ++ [(r.getD (((segs.getD k (0, 0, 0)).1).toNat) 0) * ((segs.getD k (0, 0, 0)).2.1)]).length) (ints ((prodUpto segs r Prod.fst k) ++ [(r.getD (((segs.getD k (0, 0, 0)).1).toNat) 0) * ((segs.getD k (0, 0, 0)).2.1)]))), (blk b9 133 [(Value.func (.func 82) #[] #[])]), (blk b4 104 (ints r)), (sl vs 3 segs.length (trips segs))] := hS59.keep [2, 3, 4, 5] (by decide) _ rfl rfl; clear hS59
  exact then_n ⟨k + 1, ⟨v57, hA65.as _ rfl, (hS66.row_say (i := 0) rfl (by rw [prodUpto_succ]) (by rw [prodUpto_succ])), by omega⟩, by omega⟩
 ·skip
  rw [decide_eq_false hb29] at hA28
  refine c_false hA28 rfl ?_
  refine c_exit ?_
  refine then_exit ?_
  refine then_exit ?_
  refine blk_hit ?_
  refine then_n ?_
  refine c_seq ?_
  have hA67 := hA28.as [(7, v7_)] rfl; clear hA28
  refine c_region ?_
  refine st hA67 (op_move rfl (hA67.ev rfl)) rfl rfl (by decide) fun a68 hA69 => ?_; clear hA67 a27
  refine stw hA69 (op_call rfl en_98 (ev1 (hA69.ev rfl)) (sum_ok (prodUpto segs r Prod.fst k) _ _ (SlAt.of_row (hS26.ok_row 0 rfl)) (by omega) (fun i hi => by have hi2 : i < segs.length := (by omega); rw [prodUpto_at (by omega)]; have hsk := hs i hi2; have hb := hsk.h; exact mul_bd (hr.2 _) (by constructor <;> (try simp only []) <;> omega)))) rfl rfl (by decide) ?_
  rintro a70 _ w72 ⟨rfl, hE73⟩ hA71; have hS74 := hS26.step hE73; clear hE73 hA69 hS26 a68
  refine st hA71 (op_assign rfl (hA71.ev rfl)) rfl rfl (by decide) fun a75 hA76 => ?_; clear hA71 a70
  refine wl_nil ?_
  refine then_n ?_
  refine c_ret ?_
  refine fin_run hA76 (.inl rfl) (run_results1 hA76 rfl (.tmp rfl)) ?_
  exact ⟨ret_int (by unfold atF; rw [show k = segs.length by omega]), hS74.ext⟩
theorem at_hi (segs : List Seg) (vs : Value) (r : List Int) (n : Nat) (w : World) (hv : SlAt w vs 3 segs.length (trips segs)) (hlen : segs.length ≤ 8) (hn : n ≤ 3) (hr : RatesV r) (hs : ∀ i, i < segs.length → SegV n (segs.getD i (0, 0, 0))) :
  Calls Try.prog 81 #[vs, (Value.agg (ints r).toArray), (Value.agg #[(Value.func (.func 83) #[] #[])])] w (Ret fun v w' => v = .int .i64 (atF segs r Prod.snd) ∧ Ext NoB w w') := by
 refine calls_enter Try.func81 rfl fun a0 hA0 => ?_
 replace hA0 : Fr 32 [] [(0, vs), (1, (Value.agg (ints r).toArray)), (2, (Value.agg #[(Value.func (.func 83) #[] #[])]))] a0 := hA0
 have hr3 := hr.1
 have hS0 : Sep NoB w w [(sl vs 3 segs.length (trips segs))] := sep_ro ⟨rfl, hv, trivial⟩
 refine c_seq ?_
 refine c_region ?_
 refine stw hA0 (op_box hS0 rfl (hA0.ev rfl) (cs := (ints r)) rfl) rfl rfl (by decide) ?_
 rintro a1 _ w3 ⟨b4, rfl, hS5⟩ hA2; clear hA0 hS0 a0
 refine stw hA2 (op_box hS5 rfl (hA2.ev rfl) (cs := [(Value.func (.func 83) #[] #[])]) rfl) rfl rfl (by decide) ?_
 rintro a6 _ w8 ⟨b9, rfl, hS10⟩ hA7; clear hA2 hS5 a1
 refine st hA7 (op_assign rfl (evc _ _)) rfl rfl (by decide) fun a11 hA12 => ?_; clear hA7 a6
 refine wl_nil ?_
 refine then_n ?_
 refine c_seq ?_
 refine c_region ?_
 refine st hA12 (op_assign rfl (evc _ _)) rfl rfl (by decide) fun a13 hA14 => ?_; clear hA12 a11
 have hS15 := hS10.nil_row 3 1; clear hS10
 refine wl_nil ?_
 refine then_n ?_
 refine c_seq ?_
 refine c_seq ?_
 refine c_region ?_
 refine st hA14 (op_move rfl (hA14.ev rfl)) rfl rfl (by decide) fun a16 hA17 => ?_; clear hA14 a13
 refine st hA17 (op_lenS rfl un_58 (hA17.ev rfl) (hS15.sk 3 rfl)) rfl rfl (by decide) fun a18 hA19 => ?_; clear hA17 a16
 refine st hA19 (op_move rfl (evc _ _)) rfl rfl (by decide) fun a20 hA21 => ?_; clear hA19 a18
 refine wl_nil ?_
 refine then_n ?_
 refine c_block ?_
 have hA22 := hA21.as [(12, (Value.int .i64 0)), (11, (Value.int .i64 (segs.length : Int))), (10, vs), (7, (Value.slice none 0 0)), (5, (bptr b9 0)), (4, (bptr b4 0))] rfl; clear hA21
 refine c_loop (G := Nat) (fun (k : Nat) a_ w_ => ∃ v7_ : Value, Fr 32 [] [(12, (Value.int .i64 (k : Int))), (11, (Value.int .i64 (segs.length : Int))), (10, vs), (7, v7_), (5, (bptr b9 0)), (4, (bptr b4 0))] a_ ∧ Sep NoB w w_ [(row v7_ 3 1 ((prodUpto segs r Prod.snd k).length) (ints (prodUpto segs r Prod.snd k))), (blk b9 133 [(Value.func (.func 83) #[] #[])]), (blk b4 104 (ints r)), (sl vs 3 segs.length (trips segs))] ∧ (k ≤ segs.length)) (fun k => segs.length - k) 0 ⟨(Value.slice none 0 0), hA22.as _ rfl, hS15, by omega⟩ ?_
 clear hA22 hS15 a20
 rintro k a23 w25 ⟨v7_, hA24, hS26, hk⟩
 have hpl := prodUpto_len segs r Prod.snd k
 refine c_seq ?_
 refine c_region ?_
 refine st hA24 (op_lss rfl (hA24.ev rfl) (hA24.ev rfl)) rfl rfl (by decide) fun a27 hA28 => ?_; clear hA24 a23
 refine wl_nil ?_
 refine then_n ?_
 refine c_seq ?_
 by_cases hb29 : (k : Int) < (segs.length : Int)
 ·skip
  rw [decide_eq_true hb29] at hA28
  have hsk := hs k (by omega); have hsb := hsk.b; have hsh := hsk.h; have hrk := hr.2 (segs.getD k (0, 0, 0)).1.toNat; have hmb := mul_bd hrk (b := Prod.snd (segs.getD k (0, 0, 0)).2) (by constructor <;> (try simp only []) <;> omega); try dsimp only at hmb
  refine c_true hA28 rfl ?_
  refine c_skip ?_
  refine then_n ?_
  refine c_seq ?_
  refine c_block ?_
  refine c_seq ?_
  refine c_region ?_
  refine st hA28 (op_indexS rfl un_58 ty_67 (hA28.ev rfl) (i := k) (hA28.ev rfl) (hS26.sk 3 rfl) (by decide) (by omega)) rfl rfl (by decide) fun a30 hA31 => ?_; clear hA28 a27
  refine st hA31 (op_loadAE rfl ty_67 (hA31.ev rfl) (hS26.sk 3 rfl) (trips_all (by omega)) rfl (by decide)) rfl rfl (by decide) fun a32 hA33 => ?_; clear hA31 a30
  refine stw hA33 (op_alloc hS26 rfl ze_67 (cs := [(Value.int .i64 0), (Value.int .i64 0), (Value.int .i64 0)]) rfl) rfl rfl (by decide) ?_
  rintro a34 _ w36 ⟨b37, rfl, hS38⟩ hA35; clear hA33 hS26 a32
  refine sts hA35 (op_store hS38 rfl ty_67 (hA35.ev rfl) (hA35.ev rfl) (i := 0) rfl (vs := [(Value.int .i64 ((segs.getD k (0, 0, 0)).1)), (Value.int .i64 ((segs.getD k (0, 0, 0)).2.1)), (Value.int .i64 ((segs.getD k (0, 0, 0)).2.2))]) rfl rfl rfl (Nat.le_of_ble_eq_true rfl)) rfl rfl ?_
  intro _ w39 hS40 hA41; clear hA35
  have hS42 : Sep NoB w w39 [(blk b37 67 [(Value.int .i64 ((segs.getD k (0, 0, 0)).1)), (Value.int .i64 ((segs.getD k (0, 0, 0)).2.1)), (Value.int .i64 ((segs.getD k (0, 0, 0)).2.2))]), (row v7_ 3 1 ((prodUpto segs r Prod.snd k).length) (ints (prodUpto segs r Prod.snd k))), (blk b9 133 [(Value.func (.func 83) #[] #[])]), (blk b4 104 (ints r)), (sl vs 3 segs.length (trips segs))] := hS40; clear hS40 hS38
  refine wl_nil ?_
  refine then_n ?_
  have hA43 := hA41.as [(9, (bptr b37 0)), (12, (Value.int .i64 (k : Int))), (11, (Value.int .i64 (segs.length : Int))), (10, vs), (7, v7_), (5, (bptr b9 0)), (4, (bptr b4 0))] rfl; clear hA41
  refine c_drawV mixed hA43 hS42 12 [[], [], [1], [2], [3], [], [5], [], [7], [6, 8], [4, 9], [10]] [(fun (vs44 : Nat → Value) (v_ : Value) (rs_ : List Res) => v_ = v7_ ∧ rs_ = []), (fun (vs44 : Nat → Value) (v_ : Value) (rs_ : List Res) => v_ = (bptr b37 0) ∧ rs_ = []), (fun (vs44 : Nat → Value) (v_ : Value) (rs_ : List Res) => v_ = (Value.int .i64 ((segs.getD k (0, 0, 0)).1)) ∧ rs_ = []), (fun (vs44 : Nat → Value) (v_ : Value) (rs_ : List Res) => v_ = (bptr b4 (0 + ((segs.getD k (0, 0, 0)).1).toNat * 1)) ∧ rs_ = []), (fun (vs44 : Nat → Value) (v_ : Value) (rs_ : List Res) => v_ = (Value.int .i64 (r.getD (((segs.getD k (0, 0, 0)).1).toNat) 0)) ∧ rs_ = []), (fun (vs44 : Nat → Value) (v_ : Value) (rs_ : List Res) => v_ = (bptr b9 0) ∧ rs_ = []), (fun (vs44 : Nat → Value) (v_ : Value) (rs_ : List Res) => v_ = (Value.func (.func 83) #[] #[]) ∧ rs_ = []), (fun (vs44 : Nat → Value) (v_ : Value) (rs_ : List Res) => v_ = (bptr b37 1) ∧ rs_ = []), (fun (vs44 : Nat → Value) (v_ : Value) (rs_ : List Res) => v_ = (Value.agg #[(Value.int .i64 ((segs.getD k (0, 0, 0)).2.1)), (Value.int .i64 ((segs.getD k (0, 0, 0)).2.2))]) ∧ rs_ = []), (fun (vs44 : Nat → Value) (v_ : Value) (rs_ : List Res) => v_ = (Value.int .i64 ((segs.getD k (0, 0, 0)).2.2)) ∧ rs_ = []), (fun (vs44 : Nat → Value) (v_ : Value) (rs_ : List Res) => v_ = (Value.int .i64 ((r.getD (((segs.getD k (0, 0, 0)).1).toNat) 0) * ((segs.getD k (0, 0, 0)).2.2))) ∧ rs_ = []), (fun (vs44 : Nat → Value) (v_ : Value) (rs_ : List Res) => True ∧ rs_ = [(row v_ 3 1 1 [(Value.int .i64 ((r.getD (((segs.getD k (0, 0, 0)).1).toNat) 0) * ((segs.getD k (0, 0, 0)).2.2)))])])] (by decide +kernel) (by decide +kernel) rfl rfl ⟨(fun _ _ _ _ _ h_ => h_), (fun _ _ _ _ _ h_ => h_), (fun _ _ _ _ _ h_ => h_), (fun _ _ _ _ _ h_ => h_), (fun _ _ _ _ _ h_ => h_), (fun _ _ _ _ _ h_ => h_), (fun _ _ _ _ _ h_ => h_), (fun _ _ _ _ _ h_ => h_), (fun _ _ _ _ _ h_ => h_), (fun _ _ _ _ _ h_ => h_), (fun _ _ _ _ _ h_ => h_), (fun _ _ _ _ _ h_ => h_), trivial⟩ ?_ ?_
  ·skip
   refine ⟨fun a w vs44 hA hS hd => ?_, ?_⟩
   ·skip
    exact opG_of rfl (vv (op_move rfl (hA.ev rfl)) (And.intro rfl rfl))
   refine ⟨fun a w vs44 hA hS hd => ?_, ?_⟩
   ·skip
    exact opG_of rfl (vv (op_field rfl fd_67_0 (hA.ev rfl)) (And.intro rfl rfl))
   refine ⟨fun a w vs44 hA hS hd => ?_, ?_⟩
   ·skip
    obtain ⟨e1, rs1, hy1, hp1⟩ := hd 1 (by decide)
    obtain ⟨hv1, hr1⟩ := hy1; subst hr1
    rw [hv1] at e1
    exact opG_of rfl (vv (op_load1 rfl ty_3 (tmp_ev (slot_ev e1 rfl)) (hS.bk 0 rfl) rfl) (And.intro rfl rfl))
   refine ⟨fun a w vs44 hA hS hd => ?_, ?_⟩
   ·skip
    obtain ⟨e2, rs2, hy2, hp2⟩ := hd 2 (by decide)
    obtain ⟨hv2, hr2⟩ := hy2; subst hr2
    rw [hv2] at e2
    exact opG_of rfl (vv (op_indexA rfl un_104 ty_3 (hA.ev rfl) (i := ((segs.getD k (0, 0, 0)).1).toNat) ((tmp_ev (slot_ev e2 rfl)).trans (int_nat (by omega))) (by omega)) (And.intro rfl rfl))
   refine ⟨fun a w vs44 hA hS hd => ?_, ?_⟩
   ·skip
    obtain ⟨e3, rs3, hy3, hp3⟩ := hd 3 (by decide)
    obtain ⟨hv3, hr3⟩ := hy3; subst hr3
    rw [hv3] at e3
    exact opG_of rfl (vv (op_load1 rfl ty_3 (tmp_ev (slot_ev e3 rfl)) (hS.bk 3 rfl) (ints_at' (by first | (simp only [List.length_set]; omega) | omega))) (And.intro rfl rfl))
   refine ⟨fun a w vs44 hA hS hd => ?_, ?_⟩
   ·skip
    exact opG_of rfl (vv (op_field rfl fd_133_0 (hA.ev rfl)) (And.intro rfl rfl))
   refine ⟨fun a w vs44 hA hS hd => ?_, ?_⟩
   ·skip
    obtain ⟨e5, rs5, hy5, hp5⟩ := hd 5 (by decide)
    obtain ⟨hv5, hr5⟩ := hy5; subst hr5
    rw [hv5] at e5
    exact opG_of rfl (vv (op_load1 rfl ty_130 (tmp_ev (slot_ev e5 rfl)) (hS.bk 2 rfl) rfl) (And.intro rfl rfl))
   refine ⟨fun a w vs44 hA hS hd => ?_, ?_⟩
   ·skip
    exact opG_of rfl (vv (op_field rfl fd_67_1 (hA.ev rfl)) (And.intro rfl rfl))
   refine ⟨fun a w vs44 hA hS hd => ?_, ?_⟩
   ·skip
    obtain ⟨e7, rs7, hy7, hp7⟩ := hd 7 (by decide)
    obtain ⟨hv7, hr7⟩ := hy7; subst hr7
    rw [hv7] at e7
    exact opG_of rfl (vv (op_loadA rfl ty_42 (tmp_ev (slot_ev e7 rfl)) (hS.bk 0 rfl) (l := [(Value.int .i64 ((segs.getD k (0, 0, 0)).2.1)), (Value.int .i64 ((segs.getD k (0, 0, 0)).2.2))]) rfl rfl) (And.intro rfl rfl))
   refine ⟨fun a w vs44 hA hS hd => ?_, ?_⟩
   ·skip
    obtain ⟨e6, rs6, hy6, hp6⟩ := hd 6 (by decide)
    obtain ⟨hv6, hr6⟩ := hy6; subst hr6
    rw [hv6] at e6
    obtain ⟨e8, rs8, hy8, hp8⟩ := hd 8 (by decide)
    obtain ⟨hv8, hr8⟩ := hy8; subst hr8
    rw [hv8] at e8
    exact opG_of rfl (vx (op_callv rfl (tmp_ev (slot_ev e6 rfl)) en_83 (ev1 (tmp_ev (slot_ev e8 rfl))) (high_ok _ _ _)) (And.intro rfl rfl))
   refine ⟨fun a w vs44 hA hS hd => ?_, ?_⟩
   ·skip
    obtain ⟨e4, rs4, hy4, hp4⟩ := hd 4 (by decide)
    obtain ⟨hv4, hr4⟩ := hy4; subst hr4
    rw [hv4] at e4
    obtain ⟨e9, rs9, hy9, hp9⟩ := hd 9 (by decide)
    obtain ⟨hv9, hr9⟩ := hy9; subst hr9
    rw [hv9] at e9
    exact opG_of rfl (vv (op_mul rfl (tmp_ev (slot_ev e4 rfl)) (tmp_ev (slot_ev e9 rfl)) (by omega) (by omega)) (And.intro rfl rfl))
   refine ⟨fun a w vs44 hA hS hd => ?_, ?_⟩
   ·skip
    obtain ⟨e10, rs10, hy10, hp10⟩ := hd 10 (by decide)
    obtain ⟨hv10, hr10⟩ := hy10; subst hr10
    rw [hv10] at e10
    exact opG_of rfl (vblt rfl (pv1 (tmp_ev (slot_ev e10 rfl))) un_40 ty_3 ze_3 (by decide) (cs := [(Value.int .i64 ((r.getD (((segs.getD k (0, 0, 0)).1).toNat) 0) * ((segs.getD k (0, 0, 0)).2.2)))]) (bs_3_1_0i _) rfl (by decide) (fun _ => And.intro trivial rfl))
   trivial
  intro a45 w46 vs44 rsf50 hA47 hH49 hS48; clear hA43 hS42
  obtain ⟨hs_0, hy_0⟩ := hH49 0 (by decide)
  obtain ⟨hv_0, hr_0⟩ := hy_0
  obtain ⟨hs_1, hy_1⟩ := hH49 1 (by decide)
  obtain ⟨hv_1, hr_1⟩ := hy_1
  obtain ⟨hs_2, hy_2⟩ := hH49 2 (by decide)
  obtain ⟨hv_2, hr_2⟩ := hy_2
  obtain ⟨hs_3, hy_3⟩ := hH49 3 (by decide)
  obtain ⟨hv_3, hr_3⟩ := hy_3
  obtain ⟨hs_4, hy_4⟩ := hH49 4 (by decide)
  obtain ⟨hv_4, hr_4⟩ := hy_4
  obtain ⟨hs_5, hy_5⟩ := hH49 5 (by decide)
  obtain ⟨hv_5, hr_5⟩ := hy_5
  obtain ⟨hs_6, hy_6⟩ := hH49 6 (by decide)
  obtain ⟨hv_6, hr_6⟩ := hy_6
  obtain ⟨hs_7, hy_7⟩ := hH49 7 (by decide)
  obtain ⟨hv_7, hr_7⟩ := hy_7
  obtain ⟨hs_8, hy_8⟩ := hH49 8 (by decide)
  obtain ⟨hv_8, hr_8⟩ := hy_8
  obtain ⟨hs_9, hy_9⟩ := hH49 9 (by decide)
  obtain ⟨hv_9, hr_9⟩ := hy_9
  obtain ⟨hs_10, hy_10⟩ := hH49 10 (by decide)
  obtain ⟨hv_10, hr_10⟩ := hy_10
  obtain ⟨hs_11, hy_11⟩ := hH49 11 (by decide)
  obtain ⟨hv_11, hr_11⟩ := hy_11
  have hS51 : Sep NoB w w46 [(row (vs44 11) 3 1 1 [(Value.int .i64 ((r.getD (((segs.getD k (0, 0, 0)).1).toNat) 0) * ((segs.getD k (0, 0, 0)).2.2)))]), (blk b37 67 [(Value.int .i64 ((segs.getD k (0, 0, 0)).1)), (Value.int .i64 ((segs.getD k (0, 0, 0)).2.1)), (Value.int .i64 ((segs.getD k (0, 0, 0)).2.2))]), (row v7_ 3 1 ((prodUpto segs r Prod.snd k).length) (ints (prodUpto segs r Prod.snd k))), (blk b9 133 [(Value.func (.func 83) #[] #[])]), (blk b4 104 (ints r)), (sl vs 3 segs.length (trips segs))] := by rw [show catR rsf50 0 12 = ([(row (vs44 11) 3 1 1 [(Value.int .i64 ((r.getD (((segs.getD k (0, 0, 0)).1).toNat) 0) * ((segs.getD k (0, 0, 0)).2.2)))])] : List Res) by (try simp only [catR, hr_0, hr_1, hr_2, hr_3, hr_4, hr_5, hr_6, hr_7, hr_8, hr_9, hr_10, hr_11]); (try rfl)] at hS48; exact hS48
  rw [hv_0] at hs_0
  have hA52 : Fr 32 [] [(16, v7_), (9, (bptr b37 0)), (12, (Value.int .i64 (k : Int))), (11, (Value.int .i64 (segs.length : Int))), (10, vs), (7, v7_), (5, (bptr b9 0)), (4, (bptr b4 0))] a45 := hA47.add (slot_ev hs_0 rfl); clear hA47
  have hA53 : Fr 32 [] [(27, (vs44 11)), (16, v7_), (9, (bptr b37 0)), (12, (Value.int .i64 (k : Int))), (11, (Value.int .i64 (segs.length : Int))), (10, vs), (7, v7_), (5, (bptr b9 0)), (4, (bptr b4 0))] a45 := hA52.add (slot_ev hs_11 rfl); clear hA52
  clear hH49 hS48 hs_0 hs_1 hs_2 hs_3 hs_4 hs_5 hs_6 hs_7 hs_8 hs_9 hs_10 hs_11
  clear hr_0
  clear hv_0
  clear hr_1
  clear hv_1
  clear hr_2
  clear hv_2
  clear hr_3
  clear hv_3
  clear hr_4
  clear hv_4
  clear hr_5
  clear hv_5
  clear hr_6
  clear hv_6
  clear hr_7
  clear hv_7
  clear hr_8
  clear hv_8
  clear hr_9
  clear hv_9
  clear hr_10
  clear hv_10
  clear hr_11
  clear hv_11
  refine stw hA53 (op_append hS51 rfl un_40 el_3 (hA53.ev rfl) (hA53.ev rfl) (i := 2) rfl (SlAt.of_row (hS51.ok_row 0 rfl)) rfl (by simp only [maxLen]; omega) (by omega)) rfl rfl (by decide) ?_
  intro a54 v57 w56 hS58 hA55
  have hS59 := hS58.row_say (i := 2) rfl (n' := ((prodUpto segs r Prod.snd k) ++ [(r.getD (((segs.getD k (0, 0, 0)).1).toNat) 0) * ((segs.getD k (0, 0, 0)).2.2)]).length) (xs' := (ints ((prodUpto segs r Prod.snd k) ++ [(r.getD (((segs.getD k (0, 0, 0)).1).toNat) 0) * ((segs.getD k (0, 0, 0)).2.2)]))) (by simp) (by simp [ints]); clear hS58 hA53 hS51 a45
  refine st hA55 (op_assign rfl (hA55.ev rfl)) rfl rfl (by decide) fun a60 hA61 => ?_; clear hA55 a54
  refine wl_nil ?_
  refine blk_n ?_
  refine then_n ?_
  refine c_region ?_
  refine st hA61 (op_add rfl (hA61.ev rfl) (evc _ _) (by omega) (by omega)) rfl rfl (by decide) fun a62 hA63 => ?_; clear hA61 a60
  refine st hA63 (op_move rfl (hA63.ev rfl)) rfl rfl (by decide) fun a64 hA65 => ?_; clear hA63 a62
  refine wl_nil ?_
  have hS66 : Sep NoB w w56 [(row v57 3 1 (((prodUpto segs r Prod.snd k) ++ [(r.getD (((segs.getD k (0, 0, 0)).1).toNat) 0) * ((segs.getD k (0, 0, 0)).2.2)]).length) (ints ((prodUpto segs r Prod.snd k) ++ [(r.getD (((segs.getD k (0, 0, 0)).1).toNat) 0) * ((segs.getD k (0, 0, 0)).2.2)]))), (blk b9 133 [(Value.func (.func 83) #[] #[])]), (blk b4 104 (ints r)), (sl vs 3 segs.length (trips segs))] := hS59.keep [2, 3, 4, 5] (by decide) _ rfl rfl; clear hS59
  exact then_n ⟨k + 1, ⟨v57, hA65.as _ rfl, (hS66.row_say (i := 0) rfl (by rw [prodUpto_succ]) (by rw [prodUpto_succ])), by omega⟩, by omega⟩
 ·skip
  rw [decide_eq_false hb29] at hA28
  refine c_false hA28 rfl ?_
  refine c_exit ?_
  refine then_exit ?_
  refine then_exit ?_
  refine blk_hit ?_
  refine then_n ?_
  refine c_seq ?_
  have hA67 := hA28.as [(7, v7_)] rfl; clear hA28
  refine c_region ?_
  refine st hA67 (op_move rfl (hA67.ev rfl)) rfl rfl (by decide) fun a68 hA69 => ?_; clear hA67 a27
  refine stw hA69 (op_call rfl en_98 (ev1 (hA69.ev rfl)) (sum_ok (prodUpto segs r Prod.snd k) _ _ (SlAt.of_row (hS26.ok_row 0 rfl)) (by omega) (fun i hi => by have hi2 : i < segs.length := (by omega); rw [prodUpto_at (by omega)]; have hsk := hs i hi2; have hb := hsk.h; exact mul_bd (hr.2 _) (by constructor <;> (try simp only []) <;> omega)))) rfl rfl (by decide) ?_
  rintro a70 _ w72 ⟨rfl, hE73⟩ hA71; have hS74 := hS26.step hE73; clear hE73 hA69 hS26 a68
  refine st hA71 (op_assign rfl (hA71.ev rfl)) rfl rfl (by decide) fun a75 hA76 => ?_; clear hA71 a70
  refine wl_nil ?_
  refine then_n ?_
  refine c_ret ?_
  refine fin_run hA76 (.inl rfl) (run_results1 hA76 rfl (.tmp rfl)) ?_
  exact ⟨ret_int (by unfold atF; rw [show k = segs.length by omega]), hS74.ext⟩
end Go.Proofs.Ytkkglkdnnfegkaa

namespace Go.Proofs.Ytkkglkdnnfegkaa
open Go.RowKit Go.Shelf Go.Eng
theorem ty_104 : tyK Try.prog 104 = some (true, 3) := by kernel_rfl
theorem bd_133_0f (x0_0 : Fn) (x0_0a x0_0b : Array Value) (w : World) : (Instr.build 133 #[(0, (.func x0_0 x0_0a x0_0b))]).run Try.prog w = .ok (.agg #[(.func x0_0 x0_0a x0_0b)]) w := by kernel_rfl
theorem en_81 : ∀ args w, (callFunc 81 args).run Try.prog w = .ok (.enter 81 args) w := enters_of Try.func81 (by kernel_rfl) rfl
theorem fd_96_0 : fldK Try.prog 96 0 = some 0 := by kernel_rfl
theorem ty_58 : tyK Try.prog 58 = some (false, 1) := by kernel_rfl
theorem en_60 : ∀ args w, (callFunc 60 args).run Try.prog w = .ok (.enter 60 args) w := enters_of Try.func60 (by kernel_rfl) rfl
theorem fd_96_1 : fldK Try.prog 96 1 = some 1 := by kernel_rfl
theorem fd_33_0 : fldK Try.prog 33 0 = some 0 := by kernel_rfl
theorem ty_28 : tyK Try.prog 28 = some (false, 1) := by kernel_rfl
theorem en_56 : ∀ args w, (callFunc 56 args).run Try.prog w = .ok (.enter 56 args) w := enters_of Try.func56 (by kernel_rfl) rfl
theorem ty_33 : tyK Try.prog 33 = some (true, 1) := by kernel_rfl
theorem en_80 : ∀ args w, (callFunc 80 args).run Try.prog w = .ok (.enter 80 args) w := enters_of Try.func80 (by kernel_rfl) rfl
theorem en_79 : ∀ args w, (callFunc 79 args).run Try.prog w = .ok (.enter 79 args) w := enters_of Try.func79 (by kernel_rfl) rfl
theorem stretch_ok (segs : List Seg) (vs : Value) (r : List Int) (n : Nat) (w : World) (hlen : segs.length ≤ 8) (hn : n ≤ 3) (hr : RatesV r) (hs : ∀ i, i < segs.length → SegV n (segs.getD i (0, 0, 0))) (hv : SlAt w vs 3 segs.length (trips segs)) :
  Calls Try.prog 60 #[vs, (Value.agg (ints r).toArray)] w (Ret fun v w' => v = .agg #[.int .i64 (stLo segs r), .int .i64 (stHi segs r)] ∧ Ext NoB w w') := by
 refine calls_enter Try.func60 rfl fun a0 hA0 => ?_
 replace hA0 : Fr 14 [] [(0, vs), (1, (Value.agg (ints r).toArray))] a0 := hA0
 have hr3 := hr.1
 have hS0 : Sep NoB w w [(sl vs 3 segs.length (trips segs))] := sep_ro ⟨rfl, hv, trivial⟩
 refine c_seq ?_
 refine c_region ?_
 refine stw hA0 (op_box hS0 rfl (hA0.ev rfl) (cs := (ints r)) rfl) rfl rfl (by decide) ?_
 rintro a1 _ w3 ⟨b4, rfl, hS5⟩ hA2; clear hA0 hS0 a0
 refine stw hA2 (op_alloc hS5 rfl ze_42 (cs := [(Value.int .i64 0), (Value.int .i64 0)]) rfl) rfl rfl (by decide) ?_
 rintro a6 _ w8 ⟨b9, rfl, hS10⟩ hA7; clear hA2 hS5 a1
 refine wl_nil ?_
 refine then_n ?_
 refine c_seq ?_
 have hA11 := hA7.as [(4, (bptr b9 0)), (3, (bptr b4 0)), (0, vs)] rfl; clear hA7
 refine c_drawn mixed hA11 hS10 7 [[], [], [], [0, 1, 2], [], [], []] [(Yd.val vs), (Yd.val (Value.agg (ints r).toArray)), (Yd.val (Value.agg #[(Value.func (.func 82) #[] #[])])), (Yd.val (Value.int .i64 (stLo segs r))), (Yd.val vs), (Yd.val (Value.agg (ints r).toArray)), (Yd.val (Value.agg #[(Value.func (.func 83) #[] #[])]))] (by decide +kernel) rfl rfl ?_ ?_
 ·skip
  refine ⟨fun a w hA hS hd => by exact opG_of rfl (dv (op_move rfl (hA.ev rfl)) hS rfl), ?_⟩
  refine ⟨fun a w hA hS hd => by exact opG_of rfl (dv (op_loadA rfl ty_104 (hA.ev rfl) (hS.bk 1 rfl) (l := (ints r)) (drop_take_all _ _ (by simp only [ints, List.length_map]; omega)) (by simp only [ints, List.length_map]; omega)) hS rfl), ?_⟩
  refine ⟨fun a w hA hS hd => by exact opG_of rfl (dv (op_build rfl (pv1 (evf _ _)) (bd_133_0f _ _ _)) hS rfl), ?_⟩
  refine ⟨fun a w hA hS hd => by have e0 := has_ev (hd 0 (by decide)) rfl (fun _ h => h); have e1 := has_ev (hd 1 (by decide)) rfl (fun _ h => h); have e2 := has_ev (hd 2 (by decide)) rfl (fun _ h => h); exact opG_of rfl (dx (op_call rfl en_81 (ev3 (tmp_ev e0) (tmp_ev e1) (tmp_ev e2)) (at_lo segs _ r n _ (hS.sk 2 rfl) (by omega) hn hr hs)) hS (fun _ => rfl)), ?_⟩
  refine ⟨fun a w hA hS hd => by exact opG_of rfl (dv (op_move rfl (hA.ev rfl)) hS rfl), ?_⟩
  refine ⟨fun a w hA hS hd => by exact opG_of rfl (dv (op_loadA rfl ty_104 (hA.ev rfl) (hS.bk 1 rfl) (l := (ints r)) (drop_take_all _ _ (by simp only [ints, List.length_map]; omega)) (by simp only [ints, List.length_map]; omega)) hS rfl), ?_⟩
  refine ⟨fun a w hA hS hd => by exact opG_of rfl (dv (op_build rfl (pv1 (evf _ _)) (bd_133_0f _ _ _)) hS rfl), ?_⟩
  trivial
 intro a13 w14 hA15 hS16 hH17; clear hA11 hS10
 have hA18 := hA15.add (has_ev (hH17 3 (by decide)) rfl (fun _ h => h)); clear hA15
 have hA19 := hA18.add (has_ev (hH17 4 (by decide)) rfl (fun _ h => h)); clear hA18
 have hA20 := hA19.add (has_ev (hH17 5 (by decide)) rfl (fun _ h => h)); clear hA19
 have hA21 := hA20.add (has_ev (hH17 6 (by decide)) rfl (fun _ h => h)); clear hA20
 clear hH17
 refine stw hA21 (op_call rfl en_81 (ev3 (hA21.ev rfl) (hA21.ev rfl) (hA21.ev rfl)) (at_hi segs _ r n _ (hS16.sk 2 rfl) (by omega) hn hr hs)) rfl rfl (by decide) ?_
 rintro a22 _ w24 ⟨rfl, hE25⟩ hA23; have hS26 := hS16.step hE25; clear hE25 hA21 hS16 a13
 refine st hA23 (op_build rfl (pv2 (hA23.ev rfl) (hA23.ev rfl)) (bd_42_0i_1i _ _)) rfl rfl (by decide) fun a27 hA28 => ?_; clear hA23 a22
 refine sts hA28 (op_store hS26 rfl ty_42 (hA28.ev rfl) (hA28.ev rfl) (i := 0) rfl (vs := [(Value.int .i64 (stLo segs r)), (Value.int .i64 (stHi segs r))]) rfl rfl rfl (Nat.le_of_ble_eq_true rfl)) rfl rfl ?_
 intro _ w29 hS30 hA31; clear hA28
 have hS32 : Sep NoB w w29 [(blk b9 42 [(Value.int .i64 (stLo segs r)), (Value.int .i64 (stHi segs r))]), (blk b4 104 (ints r)), (sl vs 3 segs.length (trips segs))] := hS30; clear hS30 hS26
 refine wl_nil ?_
 refine then_n ?_
 refine c_ret ?_
 refine fin_run hA31 (.inl rfl) (run_results1 hA31 rfl (.cellA rfl ty_42 (hS32.bk 0 rfl) (l := [(Value.int .i64 (stLo segs r)), (Value.int .i64 (stHi segs r))]) rfl rfl)) ?_
 exact ⟨rfl, hS32.ext⟩
theorem allows_ok (x : RunD) (vs : Value) (r : List Int) (n : Nat) (w : World) (hlen : x.segs.length ≤ 8) (hn : n ≤ 3) (hr : RatesV r) (hs : ∀ i, i < x.segs.length → SegV n (x.segs.getD i (0, 0, 0))) (hv : SlAt w vs 3 x.segs.length (trips x.segs)) :
  Calls Try.prog 70 #[(Value.agg #[vs, (Value.int .i64 x.lo), (Value.int .i64 x.hi)]), (Value.agg (ints r).toArray)] w (Ret fun v w' => v = .bool (allowsB x r) ∧ Ext NoB w w') := by
 refine calls_enter Try.func70 rfl fun a0 hA0 => ?_
 replace hA0 : Fr 24 [] [(0, (Value.agg #[vs, (Value.int .i64 x.lo), (Value.int .i64 x.hi)])), (1, (Value.agg (ints r).toArray))] a0 := hA0
 have hr3 := hr.1
 have hS0 : Sep NoB w w [(sl vs 3 x.segs.length (trips x.segs))] := sep_ro ⟨rfl, hv, trivial⟩
 refine c_seq ?_
 refine c_region ?_
 refine stw hA0 (op_box hS0 rfl (hA0.ev rfl) (cs := [vs, (Value.int .i64 x.lo), (Value.int .i64 x.hi)]) rfl) rfl rfl (by decide) ?_
 rintro a1 _ w3 ⟨b4, rfl, hS5⟩ hA2; clear hA0 hS0 a0
 refine stw hA2 (op_box hS5 rfl (hA2.ev rfl) (cs := (ints r)) rfl) rfl rfl (by decide) ?_
 rintro a6 _ w8 ⟨b9, rfl, hS10⟩ hA7; clear hA2 hS5 a1
 refine st hA7 (op_assign rfl (evc _ _)) rfl rfl (by decide) fun a11 hA12 => ?_; clear hA7 a6
 refine wl_nil ?_
 refine then_n ?_
 refine c_seq ?_
 refine c_region ?_
 refine st hA12 (op_field rfl fd_96_0 (hA12.ev rfl)) rfl rfl (by decide) fun a13 hA14 => ?_; clear hA12 a11
 refine st hA14 (op_load1 rfl ty_58 (hA14.ev rfl) (hS10.bk 1 rfl) rfl) rfl rfl (by decide) fun a15 hA16 => ?_; clear hA14 a13
 refine st hA16 (op_loadA rfl ty_104 (hA16.ev rfl) (hS10.bk 0 rfl) (l := (ints r)) (drop_take_all _ _ (by simp only [ints, List.length_map]; omega)) (by simp only [ints, List.length_map]; omega)) rfl rfl (by decide) fun a17 hA18 => ?_; clear hA16 a15
 refine stw hA18 (op_call rfl en_60 (ev2 (hA18.ev rfl) (hA18.ev rfl)) (stretch_ok x.segs _ r n _ (by omega) hn hr hs (hS10.sk 2 rfl))) rfl rfl (by decide) ?_
 rintro a19 _ w21 ⟨rfl, hE22⟩ hA20; have hS23 := hS10.step hE22; clear hE22 hA18 hS10 a17
 refine stw hA20 (op_alloc hS23 rfl ze_42 (cs := [(Value.int .i64 0), (Value.int .i64 0)]) rfl) rfl rfl (by decide) ?_
 rintro a24 _ w26 ⟨b27, rfl, hS28⟩ hA25; clear hA20 hS23 a19
 refine sts hA25 (op_store hS28 rfl ty_42 (hA25.ev rfl) (hA25.ev rfl) (i := 0) rfl (vs := [(Value.int .i64 (stLo x.segs r)), (Value.int .i64 (stHi x.segs r))]) rfl rfl rfl (Nat.le_of_ble_eq_true rfl)) rfl rfl ?_
 intro _ w29 hS30 hA31; clear hA25
 have hS32 : Sep NoB w w29 [(blk b27 42 [(Value.int .i64 (stLo x.segs r)), (Value.int .i64 (stHi x.segs r))]), (blk b9 104 (ints r)), (blk b4 96 [vs, (Value.int .i64 x.lo), (Value.int .i64 x.hi)]), (sl vs 3 x.segs.length (trips x.segs))] := hS30; clear hS30 hS28
 refine wl_nil ?_
 refine then_n ?_
 refine c_seq ?_
 have hA33 := hA31.as [(5, (bptr b27 0)), (2, (bptr b4 0))] rfl; clear hA31
 refine c_region ?_
 refine st hA33 (op_field rfl fd_42_0 (hA33.ev rfl)) rfl rfl (by decide) fun a34 hA35 => ?_; clear hA33 a24
 refine st hA35 (op_load1 rfl ty_3 (hA35.ev rfl) (hS32.bk 0 rfl) rfl) rfl rfl (by decide) fun a36 hA37 => ?_; clear hA35 a34
 refine st hA37 (op_field rfl fd_96_1 (hA37.ev rfl)) rfl rfl (by decide) fun a38 hA39 => ?_; clear hA37 a36
 refine st hA39 (op_field rfl fd_42_1 (hA39.ev rfl)) rfl rfl (by decide) fun a40 hA41 => ?_; clear hA39 a38
 refine st hA41 (op_load1 rfl ty_3 (hA41.ev rfl) (hS32.bk 2 rfl) rfl) rfl rfl (by decide) fun a42 hA43 => ?_; clear hA41 a40
 refine st hA43 (op_leq rfl (hA43.ev rfl) (hA43.ev rfl)) rfl rfl (by decide) fun a44 hA45 => ?_; clear hA43 a42
 refine st hA45 (op_move rfl (hA45.ev rfl)) rfl rfl (by decide) fun a46 hA47 => ?_; clear hA45 a44
 by_cases hb48 : (stLo x.segs r) ≤ x.hi
 ·skip
  rw [decide_eq_true hb48] at hA47
  refine stg hA47 (op_field rfl fd_42_1 (hA47.ev rfl)) rfl rfl rfl rfl (by decide) fun a49 hA50 => ?_; clear hA47 a46
  refine stg hA50 (op_load1 rfl ty_3 (hA50.ev rfl) (hS32.bk 0 rfl) rfl) rfl rfl rfl rfl (by decide) fun a51 hA52 => ?_; clear hA50 a49
  refine stg hA52 (op_field rfl fd_96_1 (hA52.ev rfl)) rfl rfl rfl rfl (by decide) fun a53 hA54 => ?_; clear hA52 a51
  refine stg hA54 (op_field rfl fd_42_0 (hA54.ev rfl)) rfl rfl rfl rfl (by decide) fun a55 hA56 => ?_; clear hA54 a53
  refine stg hA56 (op_load1 rfl ty_3 (hA56.ev rfl) (hS32.bk 2 rfl) rfl) rfl rfl rfl rfl (by decide) fun a57 hA58 => ?_; clear hA56 a55
  refine stg hA58 (op_geq rfl (hA58.ev rfl) (hA58.ev rfl)) rfl rfl rfl rfl (by decide) fun a59 hA60 => ?_; clear hA58 a57
  refine st hA60 (op_pick_t rfl (hA60.ev rfl) (hA60.ev rfl)) rfl rfl (by decide) fun a61 hA62 => ?_; clear hA60 a59
  refine st hA62 (op_assign rfl (hA62.ev rfl)) rfl rfl (by decide) fun a63 hA64 => ?_; clear hA62 a61
  refine wl_nil ?_
  refine then_n ?_
  refine c_ret ?_
  refine fin_run hA64 (.inl rfl) (run_results1 hA64 rfl (.tmp rfl)) ?_
  exact ⟨congrArg Value.bool (by unfold allowsB; simp [*]), hS32.ext⟩
 ·skip
  rw [decide_eq_false hb48] at hA47
  refine skp hA47 rfl rfl rfl rfl rfl (by decide) fun a65 hA66 => ?_; clear hA47 a46
  refine skp hA66 rfl rfl rfl rfl rfl (by decide) fun a67 hA68 => ?_; clear hA66 a65
  refine skp hA68 rfl rfl rfl rfl rfl (by decide) fun a69 hA70 => ?_; clear hA68 a67
  refine skp hA70 rfl rfl rfl rfl rfl (by decide) fun a71 hA72 => ?_; clear hA70 a69
  refine skp hA72 rfl rfl rfl rfl rfl (by decide) fun a73 hA74 => ?_; clear hA72 a71
  refine skp hA74 rfl rfl rfl rfl rfl (by decide) fun a75 hA76 => ?_; clear hA74 a73
  refine st hA76 (op_pick_f rfl (hA76.ev rfl) (evc _ _)) rfl rfl (by decide) fun a77 hA78 => ?_; clear hA76 a75
  refine st hA78 (op_assign rfl (hA78.ev rfl)) rfl rfl (by decide) fun a79 hA80 => ?_; clear hA78 a77
  refine wl_nil ?_
  refine then_n ?_
  refine c_ret ?_
  refine fin_run hA80 (.inl rfl) (run_results1 hA80 rfl (.tmp rfl)) ?_
  exact ⟨congrArg Value.bool (by unfold allowsB; simp [*]), hS32.ext⟩
theorem segment_ok (R : List (Int × Int)) (vr : Value) (x1 x2 x3 : Int) (w : World) (hv : SlAt w vr 2 R.length (pairs R)) (hlen : R.length ≤ 1000000) :
  Calls Try.prog 80 #[(Value.agg #[vr]), (Value.agg #[(Value.int .i64 x1), (Value.int .i64 x2), (Value.int .i64 x3)])] w (Ret fun v w' => v = .bool (segB R.length (x1, x2, x3)) ∧ Ext NoB w w') := by
 refine calls_enter Try.func80 rfl fun a0 hA0 => ?_
 replace hA0 : Fr 17 [] [(0, (Value.agg #[vr])), (1, (Value.agg #[(Value.int .i64 x1), (Value.int .i64 x2), (Value.int .i64 x3)]))] a0 := hA0
 have hS0 : Sep NoB w w [(sl vr 2 R.length (pairs R))] := sep_ro ⟨rfl, hv, trivial⟩
 refine c_seq ?_
 refine c_region ?_
 refine stw hA0 (op_box hS0 rfl (hA0.ev rfl) (cs := [vr]) rfl) rfl rfl (by decide) ?_
 rintro a1 _ w3 ⟨b4, rfl, hS5⟩ hA2; clear hA0 hS0 a0
 refine stw hA2 (op_box hS5 rfl (hA2.ev rfl) (cs := [(Value.int .i64 x1), (Value.int .i64 x2), (Value.int .i64 x3)]) rfl) rfl rfl (by decide) ?_
 rintro a6 _ w8 ⟨b9, rfl, hS10⟩ hA7; clear hA2 hS5 a1
 refine st hA7 (op_assign rfl (evc _ _)) rfl rfl (by decide) fun a11 hA12 => ?_; clear hA7 a6
 refine wl_nil ?_
 refine then_n ?_
 refine c_seq ?_
 refine c_region ?_
 refine st hA12 (op_field rfl fd_67_0 (hA12.ev rfl)) rfl rfl (by decide) fun a13 hA14 => ?_; clear hA12 a11
 refine st hA14 (op_load1 rfl ty_3 (hA14.ev rfl) (hS10.bk 0 rfl) rfl) rfl rfl (by decide) fun a15 hA16 => ?_; clear hA14 a13
 refine st hA16 (op_field rfl fd_33_0 (hA16.ev rfl)) rfl rfl (by decide) fun a17 hA18 => ?_; clear hA16 a15
 refine st hA18 (op_load1 rfl ty_28 (hA18.ev rfl) (hS10.bk 1 rfl) rfl) rfl rfl (by decide) fun a19 hA20 => ?_; clear hA18 a17
 refine st hA20 (op_lenS rfl un_28 (hA20.ev rfl) (hS10.sk 2 rfl)) rfl rfl (by decide) fun a21 hA22 => ?_; clear hA20 a19
 refine st hA22 (op_sub rfl (hA22.ev rfl) (evc _ _) (by omega) (by omega)) rfl rfl (by decide) fun a23 hA24 => ?_; clear hA22 a21
 refine stw hA24 (op_call rfl en_56 (ev3 (hA24.ev rfl) (evc _ _) (hA24.ev rfl)) (within_ok _ _ _ _)) rfl rfl (by decide) ?_
 rintro a25 _ W_ ⟨rfl, hW_⟩ hA26; have hW2_ := hW_.symm; subst hW2_; clear hW_ hA24 a23
 refine st hA26 (op_move rfl (hA26.ev rfl)) rfl rfl (by decide) fun a28 hA29 => ?_; clear hA26 a25
 rcases Bool.eq_false_or_eq_true ((decide (0 ≤ x1) && decide (x1 ≤ ((R.length : Int) - 1)))) with hb30 | hb30
 ·skip
  rw [hb30] at hA29
  have hq31 := hb30; simp only [Bool.and_eq_true, Bool.and_eq_false_iff, decide_eq_true_eq, decide_eq_false_iff_not] at hq31
  refine stg hA29 (op_field rfl fd_67_1 (hA29.ev rfl)) rfl rfl rfl rfl (by decide) fun a32 hA33 => ?_; clear hA29 a28
  refine stg hA33 (op_loadA rfl ty_42 (hA33.ev rfl) (hS10.bk 0 rfl) (l := [(Value.int .i64 x2), (Value.int .i64 x3)]) rfl rfl) rfl rfl rfl rfl (by decide) fun a34 hA35 => ?_; clear hA33 a32
  refine stwg hA35 (op_call rfl en_86 (ev2 (hA35.ev rfl) (evc _ _)) (upto_ok _ _ _ _)) rfl rfl rfl rfl (by decide) ?_
  rintro a36 _ w38 ⟨rfl, hE39⟩ hA37; have hS40 := hS10.step hE39; clear hE39 hA35 hS10 a34
  refine st hA37 (op_pick_t rfl (hA37.ev rfl) (hA37.ev rfl)) rfl rfl (by decide) fun a41 hA42 => ?_; clear hA37 a36
  refine st hA42 (op_assign rfl (hA42.ev rfl)) rfl rfl (by decide) fun a43 hA44 => ?_; clear hA42 a41
  refine wl_nil ?_
  refine then_n ?_
  refine c_ret ?_
  refine fin_run hA44 (.inl rfl) (run_results1 hA44 rfl (.tmp rfl)) ?_
  exact ⟨congrArg Value.bool (by unfold segB; simp [*]), hS40.ext⟩
 ·skip
  rw [hb30] at hA29
  have hq45 := hb30; simp only [Bool.and_eq_true, Bool.and_eq_false_iff, decide_eq_true_eq, decide_eq_false_iff_not] at hq45
  refine skp hA29 rfl rfl rfl rfl rfl (by decide) fun a46 hA47 => ?_; clear hA29 a28
  refine skp hA47 rfl rfl rfl rfl rfl (by decide) fun a48 hA49 => ?_; clear hA47 a46
  refine skp hA49 rfl rfl rfl rfl rfl (by decide) fun a50 hA51 => ?_; clear hA49 a48
  refine st hA51 (op_pick_f rfl (hA51.ev rfl) (evc _ _)) rfl rfl (by decide) fun a52 hA53 => ?_; clear hA51 a50
  refine st hA53 (op_assign rfl (hA53.ev rfl)) rfl rfl (by decide) fun a54 hA55 => ?_; clear hA53 a52
  refine wl_nil ?_
  refine then_n ?_
  refine c_ret ?_
  refine fin_run hA55 (.inl rfl) (run_results1 hA55 rfl (.tmp rfl)) ?_
  exact ⟨congrArg Value.bool (by unfold segB; simp [*]), hS10.ext⟩
theorem run_ok (R : List (Int × Int)) (vr : Value) (x : RunD) (vs : Value) (w : World) (hm : SlAt w vr 2 R.length (pairs R)) (hv : SlAt w vs 3 x.segs.length (trips x.segs)) (hlen : R.length ≤ 1000000) (hsl : x.segs.length ≤ 1000000) :
  Calls Try.prog 91 #[(Value.agg #[vr]), (Value.agg #[vs, (Value.int .i64 x.lo), (Value.int .i64 x.hi)])] w (Ret fun v w' => v = .bool (runB R.length x) ∧ Ext NoB w w') := by
 refine calls_enter Try.func91 rfl fun a0 hA0 => ?_
 replace hA0 : Fr 15 [] [(0, (Value.agg #[vr])), (1, (Value.agg #[vs, (Value.int .i64 x.lo), (Value.int .i64 x.hi)]))] a0 := hA0
 have hS0 : Sep NoB w w [(sl vr 2 R.length (pairs R)), (sl vs 3 x.segs.length (trips x.segs))] := sep_ro ⟨rfl, hm, rfl, hv, trivial⟩
 refine c_seq ?_
 refine c_region ?_
 refine stw hA0 (op_box hS0 rfl (hA0.ev rfl) (cs := [vr]) rfl) rfl rfl (by decide) ?_
 rintro a1 _ w3 ⟨b4, rfl, hS5⟩ hA2; clear hA0 hS0 a0
 refine stw hA2 (op_box hS5 rfl (hA2.ev rfl) (cs := [vs, (Value.int .i64 x.lo), (Value.int .i64 x.hi)]) rfl) rfl rfl (by decide) ?_
 rintro a6 _ w8 ⟨b9, rfl, hS10⟩ hA7; clear hA2 hS5 a1
 refine st hA7 (op_assign rfl (evc _ _)) rfl rfl (by decide) fun a11 hA12 => ?_; clear hA7 a6
 refine wl_nil ?_
 refine then_n ?_
 refine c_seq ?_
 refine c_region ?_
 refine st hA12 (op_field rfl fd_96_1 (hA12.ev rfl)) rfl rfl (by decide) fun a13 hA14 => ?_; clear hA12 a11
 refine st hA14 (op_loadA rfl ty_42 (hA14.ev rfl) (hS10.bk 0 rfl) (l := [(Value.int .i64 x.lo), (Value.int .i64 x.hi)]) rfl rfl) rfl rfl (by decide) fun a15 hA16 => ?_; clear hA14 a13
 refine stw hA16 (op_call rfl en_86 (ev2 (hA16.ev rfl) (evc _ _)) (upto_ok _ _ _ _)) rfl rfl (by decide) ?_
 rintro a17 _ w19 ⟨rfl, hE20⟩ hA18; have hS21 := hS10.step hE20; clear hE20 hA16 hS10 a15
 refine st hA18 (op_move rfl (hA18.ev rfl)) rfl rfl (by decide) fun a22 hA23 => ?_; clear hA18 a17
 rcases Bool.eq_false_or_eq_true ((uptoB (x.lo, x.hi) 10000000000)) with hb24 | hb24
 ·skip
  rw [hb24] at hA23
  refine stg hA23 (op_field rfl fd_96_0 (hA23.ev rfl)) rfl rfl rfl rfl (by decide) fun a25 hA26 => ?_; clear hA23 a22
  refine stg hA26 (op_load1 rfl ty_58 (hA26.ev rfl) (hS21.bk 0 rfl) rfl) rfl rfl rfl rfl (by decide) fun a27 hA28 => ?_; clear hA26 a25
  refine stg hA28 (op_loadA rfl ty_33 (hA28.ev rfl) (hS21.bk 1 rfl) (l := [vr]) rfl rfl) rfl rfl rfl rfl (by decide) fun a29 hA30 => ?_; clear hA28 a27
  refine stg hA30 (op_makeFunc rfl (ev1 (hA30.ev rfl)) ev0) rfl rfl rfl rfl (by decide) fun a31 hA32 => ?_; clear hA30 a29
  refine stwg hA32 (op_call rfl en_79 (ev2 (hA32.ev rfl) (hA32.ev rfl)) (all_seg x.segs _ 80 #[(Value.agg #[vr])] #[] (fun i => segB R.length (x.segs.getD i (0, 0, 0))) _ (hS21.sk 3 rfl) (by omega) ⟨en_80, fun i hi W hW => segment_ok R vr _ _ _ W (hm.step (hS21.ext.trans hW)) hlen⟩)) rfl rfl rfl rfl (by decide) ?_
  rintro a33 _ w35 ⟨rfl, hE36⟩ hA34; have hS37 := hS21.step hE36; clear hE36 hA32 hS21 a31
  refine st hA34 (op_pick_t rfl (hA34.ev rfl) (hA34.ev rfl)) rfl rfl (by decide) fun a38 hA39 => ?_; clear hA34 a33
  refine st hA39 (op_assign rfl (hA39.ev rfl)) rfl rfl (by decide) fun a40 hA41 => ?_; clear hA39 a38
  refine wl_nil ?_
  refine then_n ?_
  refine c_ret ?_
  refine fin_run hA41 (.inl rfl) (run_results1 hA41 rfl (.tmp rfl)) ?_
  exact ⟨congrArg Value.bool (by unfold runB; simp [*]), hS37.ext⟩
 ·skip
  rw [hb24] at hA23
  refine skp hA23 rfl rfl rfl rfl rfl (by decide) fun a42 hA43 => ?_; clear hA23 a22
  refine skp hA43 rfl rfl rfl rfl rfl (by decide) fun a44 hA45 => ?_; clear hA43 a42
  refine skp hA45 rfl rfl rfl rfl rfl (by decide) fun a46 hA47 => ?_; clear hA45 a44
  refine skp hA47 rfl rfl rfl rfl rfl (by decide) fun a48 hA49 => ?_; clear hA47 a46
  refine skp hA49 rfl rfl rfl rfl rfl (by decide) fun a50 hA51 => ?_; clear hA49 a48
  refine st hA51 (op_pick_f rfl (hA51.ev rfl) (evc _ _)) rfl rfl (by decide) fun a52 hA53 => ?_; clear hA51 a50
  refine st hA53 (op_assign rfl (hA53.ev rfl)) rfl rfl (by decide) fun a54 hA55 => ?_; clear hA53 a52
  refine wl_nil ?_
  refine then_n ?_
  refine c_ret ?_
  refine fin_run hA55 (.inl rfl) (run_results1 hA55 rfl (.tmp rfl)) ?_
  exact ⟨congrArg Value.bool (by unfold runB; simp [*]), hS21.ext⟩
theorem short_ok (x : RunD) (vs : Value) (w : World) (hv : SlAt w vs 3 x.segs.length (trips x.segs)) :
  Calls Try.prog 90 #[(Value.agg #[vs, (Value.int .i64 x.lo), (Value.int .i64 x.hi)])] w (Ret fun v w' => v = .bool (decide ((x.segs.length : Int) ≤ 8)) ∧ Ext NoB w w') := by
 refine calls_enter Try.func90 rfl fun a0 hA0 => ?_
 replace hA0 : Fr 7 [] [(0, (Value.agg #[vs, (Value.int .i64 x.lo), (Value.int .i64 x.hi)]))] a0 := hA0
 have hS0 : Sep NoB w w [(sl vs 3 x.segs.length (trips x.segs))] := sep_ro ⟨rfl, hv, trivial⟩
 refine c_seq ?_
 refine c_region ?_
 refine stw hA0 (op_box hS0 rfl (hA0.ev rfl) (cs := [vs, (Value.int .i64 x.lo), (Value.int .i64 x.hi)]) rfl) rfl rfl (by decide) ?_
 rintro a1 _ w3 ⟨b4, rfl, hS5⟩ hA2; clear hA0 hS0 a0
 refine st hA2 (op_assign rfl (evc _ _)) rfl rfl (by decide) fun a6 hA7 => ?_; clear hA2 a1
 refine wl_nil ?_
 refine then_n ?_
 refine c_seq ?_
 refine c_region ?_
 refine st hA7 (op_field rfl fd_96_0 (hA7.ev rfl)) rfl rfl (by decide) fun a8 hA9 => ?_; clear hA7 a6
 refine st hA9 (op_load1 rfl ty_58 (hA9.ev rfl) (hS5.bk 0 rfl) rfl) rfl rfl (by decide) fun a10 hA11 => ?_; clear hA9 a8
 refine st hA11 (op_lenS rfl un_58 (hA11.ev rfl) (hS5.sk 1 rfl)) rfl rfl (by decide) fun a12 hA13 => ?_; clear hA11 a10
 refine st hA13 (op_leq rfl (hA13.ev rfl) (evc _ _)) rfl rfl (by decide) fun a14 hA15 => ?_; clear hA13 a12
 refine st hA15 (op_assign rfl (hA15.ev rfl)) rfl rfl (by decide) fun a16 hA17 => ?_; clear hA15 a14
 refine wl_nil ?_
 refine then_n ?_
 refine c_ret ?_
 refine fin_run hA17 (.inl rfl) (run_results1 hA17 rfl (.tmp rfl)) ?_
 exact ⟨rfl, hS5.ext⟩
end Go.Proofs.Ytkkglkdnnfegkaa

namespace Go.Proofs.Ytkkglkdnnfegkaa
open Go.RowKit Go.Shelf Go.Eng
theorem ty_115 : tyK Try.prog 115 = some (false, 1) := by kernel_rfl
theorem ty_134 : tyK Try.prog 134 = some (false, 1) := by kernel_rfl
theorem en_88 : ∀ args w, (callFunc 88 args).run Try.prog w = .ok (.enter 88 args) w := enters_of Try.func88 (by kernel_rfl) rfl
theorem ze_134 : (Try.prog.info? 134).bind (·.zero) = some Value.nilFunc := by kernel_rfl
theorem bd_104_  (w : World) : (Instr.build 104 #[]).run Try.prog w = .ok (.agg #[(Value.int .i64 0), (Value.int .i64 0), (Value.int .i64 0)]) w := by kernel_rfl
theorem lists_leaf (l b1 by_ bf : Nat) (vr : Value) (R : List (Int × Int)) (hR : MatV R) (J Jx : Nat → Res → World → Prop) (hJ : ∀ k G W G' W', J k G W → Sep G.S W W' [G'] → G'.own = true → J k G' W') (hJx : ∀ k G W G' W', Jx k G W → Sep G.S W W' [G'] → G'.own = true → Jx k G' W') (hD : ∀ k G W, J k G W → G.own = true ∧ Sep G.S W W (G :: [rob b1 33 [vr], sl vr 2 R.length (pairs R)])) (hDx : ∀ k G W, Jx k G W → G.own = true ∧ Sep G.S W W (G :: [rob b1 33 [vr], sl vr 2 R.length (pairs R)])) (LS : List (List Int)) (hy : ∀ k, k < LS.length → ∀ G W1, J k G W1 → YT Try.prog l #[.agg (ints (LS.getD k [])).toArray] W1 (fun v W' => (v = .bool true ∧ J (k + 1) G W') ∨ (v = .bool false ∧ Jx k G W'))) (G0 : Res) (hG0 : G0.own = true) (arr : List Int) (band : Nat) (pre post : List (List Int)) (W : World) (harr : RatesV arr) (hb : band = R.length) (hLS : LS = pre ++ (fromF R 0 arr band ++ post)) (h0 : J pre.length (allR [(blk by_ 115 [(Value.func (.yield l) #[] #[])]), (blk bf 134 [(Value.func (.func 88) #[] #[(bptr b1 0), (bptr by_ 0), (bptr bf 0)])]), G0]) W) :
  Calls Try.prog 88 #[.agg (ints arr).toArray, .int .i64 ((band : Nat) : Int), bptr b1 0, bptr by_ 0, bptr bf 0] W (Ret fun v W' => (v = .bool true ∧ J (pre.length + (fromF R 0 arr band).length) (allR [(blk by_ 115 [(Value.func (.yield l) #[] #[])]), (blk bf 134 [(Value.func (.func 88) #[] #[(bptr b1 0), (bptr by_ 0), (bptr bf 0)])]), G0]) W') ∨ (v = .bool false ∧ ∃ k, Jx k (allR [(blk by_ 115 [(Value.func (.yield l) #[] #[])]), (blk bf 134 [(Value.func (.func 88) #[] #[(bptr b1 0), (bptr by_ 0), (bptr bf 0)])]), G0]) W')) := by
 refine calls_enter Try.func88 rfl fun a0 hA0 => ?_
 replace hA0 : Fr 52 [] [(0, (Value.agg (ints arr).toArray)), (1, (Value.int .i64 (band : Int))), (2, (bptr b1 0)), (3, (bptr by_ 0)), (4, (bptr bf 0))] a0 := hA0
 have har3 := harr.1
 have hk : pre.length < LS.length := by rw [hLS]; simp [fromF]
 have hat : LS.getD pre.length [] = arr := by rw [hLS]; simp [fromF, List.getD]
 have hS1 : Sep (allR [(blk by_ 115 [(Value.func (.yield l) #[] #[])]), (blk bf 134 [(Value.func (.func 88) #[] #[(bptr b1 0), (bptr by_ 0), (bptr bf 0)])]), G0]).S W W [(blk by_ 115 [(Value.func (.yield l) #[] #[])]), (blk bf 134 [(Value.func (.func 88) #[] #[(bptr b1 0), (bptr by_ 0), (bptr bf 0)])]), G0, (rob b1 33 [vr]), (sl vr 2 R.length (pairs R))] := (hD _ _ _ h0).2.upk1
 refine c_seq ?_
 refine c_region ?_
 refine stw hA0 (op_box hS1 rfl (hA0.ev rfl) (cs := (ints arr)) rfl) rfl rfl (by decide) ?_
 rintro a2 _ w4 ⟨b5, rfl, hS6⟩ hA3; clear hA0 hS1 a0
 refine st hA3 (op_assign rfl (evc _ _)) rfl rfl (by decide) fun a7 hA8 => ?_; clear hA3 a2
 refine wl_nil ?_
 refine then_n ?_
 refine c_seq ?_
 refine c_seq ?_
 refine c_region ?_
 refine st hA8 (op_move rfl (hA8.ev rfl)) rfl rfl (by decide) fun a9 hA10 => ?_; clear hA8 a7
 refine st hA10 (op_field rfl fd_33_0 (hA10.ev rfl)) rfl rfl (by decide) fun a11 hA12 => ?_; clear hA10 a9
 refine st hA12 (op_load1 rfl ty_28 (hA12.ev rfl) (hS6.rk 4 rfl) rfl) rfl rfl (by decide) fun a13 hA14 => ?_; clear hA12 a11
 refine st hA14 (op_lenS rfl un_28 (hA14.ev rfl) (hS6.sk 5 rfl)) rfl rfl (by decide) fun a15 hA16 => ?_; clear hA14 a13
 refine st hA16 (op_eql rfl (hA16.ev rfl) (hA16.ev rfl)) rfl rfl (by decide) fun a17 hA18 => ?_; clear hA16 a15
 have hd19 : (band : Int) = (R.length : Int) := (by omega)
 rw [decide_eq_true hd19] at hA18
 refine wl_nil ?_
 refine then_n ?_
 refine c_true hA18 rfl ?_
 refine c_seq ?_
 have hA20 := hA18.as [(5, (bptr b5 0)), (3, (bptr by_ 0))] rfl; clear hA18
 refine c_region ?_
 refine st hA20 (op_load1 rfl ty_115 (hA20.ev rfl) (hS6.bk 1 rfl) rfl) rfl rfl (by decide) fun a21 hA22 => ?_; clear hA20 a17
 refine st hA22 (op_loadA rfl ty_104 (hA22.ev rfl) (hS6.bk 0 rfl) (l := (ints arr)) (drop_take_all _ _ (by simp only [ints, List.length_map]; omega)) (by simp only [ints, List.length_map]; omega)) rfl rfl (by decide) fun a23 hA24 => ?_; clear hA22 a21
 have hK25 : Sep (allR [(blk by_ 115 [(Value.func (.yield l) #[] #[])]), (blk bf 134 [(Value.func (.func 88) #[] #[(bptr b1 0), (bptr by_ 0), (bptr bf 0)])]), G0]).S W w4 [(blk b5 104 (ints arr)), (blk by_ 115 [(Value.func (.yield l) #[] #[])]), (blk bf 134 [(Value.func (.func 88) #[] #[(bptr b1 0), (bptr by_ 0), (bptr bf 0)])]), G0] := hS6.keep [0, 1, 2, 3] (by decide) _ rfl rfl
 have hj26 := hJ _ _ _ _ _ h0 (Sep.pk2 (D := []) hK25 rfl rfl rfl hG0).one rfl
 refine stw hA24 (op_yield rfl (hA24.ev rfl) (ev1 (hA24.ev rfl)) (by have hz := hy _ hk _ _ hj26; rw [hat] at hz; exact hz)) rfl rfl (by decide) ?_
 rintro a27 v31 w29 hv30 hA28; clear hA24 hS6 a23
 rcases hv30 with ⟨rfl, hj32⟩ | ⟨rfl, hj32⟩
 ·skip
  refine st hA28 (op_assign rfl (hA28.ev rfl)) rfl rfl (by decide) fun a33 hA34 => ?_; clear hA28 a27
  refine wl_nil ?_
  refine then_n ?_
  refine c_ret ?_
  refine then_ret ?_
  refine fin_run hA34 (.inl rfl) (run_results1 hA34 rfl (.tmp rfl)) ?_
  exact .inl ⟨rfl, hJ _ _ _ _ _ hj32 (Sep.pk1 (D := []) (Sep.keep (hD _ _ _ hj32).2.upk2 [1, 2, 3] (by decide) _ rfl rfl) rfl rfl hG0).one rfl⟩
 ·skip
  refine st hA28 (op_assign rfl (hA28.ev rfl)) rfl rfl (by decide) fun a35 hA36 => ?_; clear hA28 a27
  refine wl_nil ?_
  refine then_n ?_
  refine c_ret ?_
  refine then_ret ?_
  refine fin_run hA36 (.inl rfl) (run_results1 hA36 rfl (.tmp rfl)) ?_
  exact .inr ⟨rfl, _, hJx _ _ _ _ _ hj32 (Sep.pk1 (D := []) (Sep.keep (hDx _ _ _ hj32).2.upk2 [1, 2, 3] (by decide) _ rfl rfl) rfl rfl hG0).one rfl⟩
theorem lists_step (l b1 by_ bf : Nat) (vr : Value) (R : List (Int × Int)) (hR : MatV R) (J Jx : Nat → Res → World → Prop) (hJ : ∀ k G W G' W', J k G W → Sep G.S W W' [G'] → G'.own = true → J k G' W') (hJx : ∀ k G W G' W', Jx k G W → Sep G.S W W' [G'] → G'.own = true → Jx k G' W') (hD : ∀ k G W, J k G W → G.own = true ∧ Sep G.S W W (G :: [rob b1 33 [vr], sl vr 2 R.length (pairs R)])) (hDx : ∀ k G W, Jx k G W → G.own = true ∧ Sep G.S W W (G :: [rob b1 33 [vr], sl vr 2 R.length (pairs R)])) (LS : List (List Int)) (hy : ∀ k, k < LS.length → ∀ G W1, J k G W1 → YT Try.prog l #[.agg (ints (LS.getD k [])).toArray] W1 (fun v W' => (v = .bool true ∧ J (k + 1) G W') ∨ (v = .bool false ∧ Jx k G W'))) (G0 : Res) (hG0 : G0.own = true) (arr : List Int) (band : Nat) (pre post : List (List Int)) (W : World) (harr : RatesV arr) (m : Nat) (hb : band + (m + 1) = R.length) (hih : ∀ (G0 : Res), G0.own = true → ∀ (arr : List Int) (pre post : List (List Int)) (W : World), RatesV arr → LS = pre ++ (fromF R m arr (band + 1) ++ post) → J pre.length (allR [(blk by_ 115 [(Value.func (.yield l) #[] #[])]), (blk bf 134 [(Value.func (.func 88) #[] #[(bptr b1 0), (bptr by_ 0), (bptr bf 0)])]), G0]) W → Calls Try.prog 88 #[.agg (ints arr).toArray, .int .i64 ((band + 1 : Nat) : Int), bptr b1 0, bptr by_ 0, bptr bf 0] W (Ret fun v W' => (v = .bool true ∧ J (pre.length + (fromF R m arr (band + 1)).length) (allR [(blk by_ 115 [(Value.func (.yield l) #[] #[])]), (blk bf 134 [(Value.func (.func 88) #[] #[(bptr b1 0), (bptr by_ 0), (bptr bf 0)])]), G0]) W') ∨ (v = .bool false ∧ ∃ k, Jx k (allR [(blk by_ 115 [(Value.func (.yield l) #[] #[])]), (blk bf 134 [(Value.func (.func 88) #[] #[(bptr b1 0), (bptr by_ 0), (bptr bf 0)])]), G0]) W'))) (hLS : LS = pre ++ (fromF R (m + 1) arr band ++ post)) (h0 : J pre.length (allR [(blk by_ 115 [(Value.func (.yield l) #[] #[])]), (blk bf 134 [(Value.func (.func 88) #[] #[(bptr b1 0), (bptr by_ 0), (bptr bf 0)])]), G0]) W) :
  Calls Try.prog 88 #[.agg (ints arr).toArray, .int .i64 ((band : Nat) : Int), bptr b1 0, bptr by_ 0, bptr bf 0] W (Ret fun v W' => (v = .bool true ∧ J (pre.length + (fromF R (m + 1) arr band).length) (allR [(blk by_ 115 [(Value.func (.yield l) #[] #[])]), (blk bf 134 [(Value.func (.func 88) #[] #[(bptr b1 0), (bptr by_ 0), (bptr bf 0)])]), G0]) W') ∨ (v = .bool false ∧ ∃ k, Jx k (allR [(blk by_ 115 [(Value.func (.yield l) #[] #[])]), (blk bf 134 [(Value.func (.func 88) #[] #[(bptr b1 0), (bptr by_ 0), (bptr bf 0)])]), G0]) W')) := by
 refine calls_enter Try.func88 rfl fun a0 hA0 => ?_
 replace hA0 : Fr 52 [] [(0, (Value.agg (ints arr).toArray)), (1, (Value.int .i64 (band : Int))), (2, (bptr b1 0)), (3, (bptr by_ 0)), (4, (bptr bf 0))] a0 := hA0
 have har3 := harr.1
 have hlb := lowF_bd hR harr band
 have hrb := hR.2 band
 have hr1 := hR.1
 have hS1 : Sep (allR [(blk by_ 115 [(Value.func (.yield l) #[] #[])]), (blk bf 134 [(Value.func (.func 88) #[] #[(bptr b1 0), (bptr by_ 0), (bptr bf 0)])]), G0]).S W W [(blk by_ 115 [(Value.func (.yield l) #[] #[])]), (blk bf 134 [(Value.func (.func 88) #[] #[(bptr b1 0), (bptr by_ 0), (bptr bf 0)])]), G0, (rob b1 33 [vr]), (sl vr 2 R.length (pairs R))] := (hD _ _ _ h0).2.upk1
 refine c_seq ?_
 refine c_region ?_
 refine stw hA0 (op_box hS1 rfl (hA0.ev rfl) (cs := (ints arr)) rfl) rfl rfl (by decide) ?_
 rintro a2 _ w4 ⟨b5, rfl, hS6⟩ hA3; clear hA0 hS1 a0
 refine st hA3 (op_assign rfl (evc _ _)) rfl rfl (by decide) fun a7 hA8 => ?_; clear hA3 a2
 refine wl_nil ?_
 refine then_n ?_
 refine c_seq ?_
 refine c_seq ?_
 refine c_region ?_
 refine st hA8 (op_move rfl (hA8.ev rfl)) rfl rfl (by decide) fun a9 hA10 => ?_; clear hA8 a7
 refine st hA10 (op_field rfl fd_33_0 (hA10.ev rfl)) rfl rfl (by decide) fun a11 hA12 => ?_; clear hA10 a9
 refine st hA12 (op_load1 rfl ty_28 (hA12.ev rfl) (hS6.rk 4 rfl) rfl) rfl rfl (by decide) fun a13 hA14 => ?_; clear hA12 a11
 refine st hA14 (op_lenS rfl un_28 (hA14.ev rfl) (hS6.sk 5 rfl)) rfl rfl (by decide) fun a15 hA16 => ?_; clear hA14 a13
 refine st hA16 (op_eql rfl (hA16.ev rfl) (hA16.ev rfl)) rfl rfl (by decide) fun a17 hA18 => ?_; clear hA16 a15
 have hd19 : ¬ ((band : Int) = (R.length : Int)) := (by omega)
 rw [decide_eq_false hd19] at hA18
 refine wl_nil ?_
 refine then_n ?_
 refine c_false hA18 rfl ?_
 refine c_skip ?_
 refine then_n ?_
 refine c_seq ?_
 have hA20 := hA18.as [(5, (bptr b5 0)), (1, (Value.int .i64 (band : Int))), (2, (bptr b1 0)), (4, (bptr bf 0))] rfl; clear hA18
 refine c_region ?_
 refine st hA20 (op_field rfl fd_33_0 (hA20.ev rfl)) rfl rfl (by decide) fun a21 hA22 => ?_; clear hA20 a17
 refine st hA22 (op_load1 rfl ty_28 (hA22.ev rfl) (hS6.rk 4 rfl) rfl) rfl rfl (by decide) fun a23 hA24 => ?_; clear hA22 a21
 refine st hA24 (op_move rfl (hA24.ev rfl)) rfl rfl (by decide) fun a25 hA26 => ?_; clear hA24 a23
 refine st hA26 (op_indexS rfl un_28 ty_42 (hA26.ev rfl) (i := band) (hA26.ev rfl) (hS6.sk 5 rfl) (by decide) (by omega)) rfl rfl (by decide) fun a27 hA28 => ?_; clear hA26 a25
 refine st hA28 (op_fieldS rfl fd_42_0 (hA28.ev rfl) (hS6.sk 5 rfl) (by rw [((hS6.sk 5 rfl)).1]; omega)) rfl rfl (by decide) fun a29 hA30 => ?_; clear hA28 a27
 refine st hA30 (op_load1E rfl ty_3 (hA30.ev rfl) (hS6.sk 5 rfl) (pairs_at0 (by omega))) rfl rfl (by decide) fun a31 hA32 => ?_; clear hA30 a29
 refine st hA32 (op_assign rfl (hA32.ev rfl)) rfl rfl (by decide) fun a33 hA34 => ?_; clear hA32 a31
 refine wl_nil ?_
 refine then_n ?_
 refine c_seq ?_
 refine c_seq ?_
 have hA35 := hA34.as [(8, (Value.int .i64 ((R.getD band (0, 0)).1))), (5, (bptr b5 0)), (1, (Value.int .i64 (band : Int))), (2, (bptr b1 0)), (4, (bptr bf 0))] rfl; clear hA34
 refine c_region ?_
 refine st hA35 (op_move rfl (hA35.ev rfl)) rfl rfl (by decide) fun a36 hA37 => ?_; clear hA35 a33
 refine st hA37 (op_gtr rfl (hA37.ev rfl) (evc _ _)) rfl rfl (by decide) fun a38 hA39 => ?_; clear hA37 a36
 refine wl_nil ?_
 refine then_n ?_
 by_cases hb40 : 0 < (band : Int)
 ·skip
  rw [decide_eq_true hb40] at hA39
  refine c_true hA39 rfl ?_
  refine c_region ?_
  refine st hA39 (op_move rfl (hA39.ev rfl)) rfl rfl (by decide) fun a41 hA42 => ?_; clear hA39 a38
  refine st hA42 (op_move rfl (hA42.ev rfl)) rfl rfl (by decide) fun a43 hA44 => ?_; clear hA42 a41
  refine st hA44 (op_sub rfl (hA44.ev rfl) (evc _ _) (by omega) (by omega)) rfl rfl (by decide) fun a45 hA46 => ?_; clear hA44 a43
  refine st hA46 (op_indexA rfl un_104 ty_3 (hA46.ev rfl) (i := ((band : Int) - 1).toNat) ((hA46.ev rfl).trans (int_nat (by omega))) (by omega)) rfl rfl (by decide) fun a47 hA48 => ?_; clear hA46 a45
  refine st hA48 (op_load1 rfl ty_3 (hA48.ev rfl) (hS6.bk 0 rfl) (ints_at' (by first | (simp only [List.length_set]; omega) | omega))) rfl rfl (by decide) fun a49 hA50 => ?_; clear hA48 a47
  refine st hA50 (op_max rfl (hA50.ev rfl) (hA50.ev rfl)) rfl rfl (by decide) fun a51 hA52 => ?_; clear hA50 a49
  refine st hA52 (op_assign rfl (hA52.ev rfl)) rfl rfl (by decide) fun a53 hA54 => ?_; clear hA52 a51
  refine wl_nil ?_
  refine then_n ?_
  refine c_seq ?_
  refine c_seq ?_
  have hA55 := hA54.as [(8, (Value.int .i64 (max ((R.getD band (0, 0)).1) (arr.getD (((band : Int) - 1).toNat) 0)))), (5, (bptr b5 0)), (1, (Value.int .i64 (band : Int))), (2, (bptr b1 0)), (4, (bptr bf 0))] rfl; clear hA54
  rw [show max ((R.getD band (0, 0)).1) (arr.getD (((band : Int) - 1).toNat) 0) = lowF R arr band + ((0 : Nat) : Int) from (by rw [show lowF R arr band + ((0 : Nat) : Int) = lowF R arr band from Int.add_zero _]; first | exact (lowF_pos (by assumption)).symm | exact (lowF_zero (by assumption)).symm)] at hA55
  refine c_region ?_
  refine st hA55 (op_move rfl (hA55.ev rfl)) rfl rfl (by decide) fun a56 hA57 => ?_; clear hA55 a53
  refine st hA57 (op_assign rfl (hA57.ev rfl)) rfl rfl (by decide) fun a58 hA59 => ?_; clear hA57 a56
  refine wl_nil ?_
  refine then_n ?_
  refine c_block ?_
  have hK60 : Sep (allR [(blk by_ 115 [(Value.func (.yield l) #[] #[])]), (blk bf 134 [(Value.func (.func 88) #[] #[(bptr b1 0), (bptr by_ 0), (bptr bf 0)])]), G0]).S W w4 [(blk b5 104 (ints arr)), (blk by_ 115 [(Value.func (.yield l) #[] #[])]), (blk bf 134 [(Value.func (.func 88) #[] #[(bptr b1 0), (bptr by_ 0), (bptr bf 0)])]), G0] := hS6.keep [0, 1, 2, 3] (by decide) _ rfl rfl
  have hj61 := hJ _ _ _ _ _ h0 (Sep.pk2 (D := []) hK60 rfl rfl rfl hG0).one rfl
  have hA62 := hA59.as [(9, (Value.int .i64 (lowF R arr band + ((0 : Nat) : Int)))), (5, (bptr b5 0)), (1, (Value.int .i64 (band : Int))), (2, (bptr b1 0)), (4, (bptr bf 0))] rfl; clear hA59
  refine c_loop (G := Nat) (fun (t : Nat) a_ w_ => Fr 52 [] [(9, (Value.int .i64 (lowF R arr band + (t : Int)))), (5, (bptr b5 0)), (1, (Value.int .i64 (band : Int))), (2, (bptr b1 0)), (4, (bptr bf 0))] a_ ∧ True ∧ (t ≤ cntF R arr band) ∧ (J (pre.length + (fromUpto R m arr band t).length) (allR [(blk by_ 115 [(Value.func (.yield l) #[] #[])]), (blk bf 134 [(Value.func (.func 88) #[] #[(bptr b1 0), (bptr by_ 0), (bptr bf 0)])]), allR [(blk b5 104 (ints (curA R arr band t))), G0]]) w_)) (fun t => cntF R arr band - t) 0 ⟨hA62.as _ rfl, trivial, (Nat.zero_le _), hj61⟩ ?_
  clear hA62 hS6 a58
  rintro t a63 w65 ⟨hA64, hS66, ht, hj⟩
  clear hS66
  have hS67 : Sep (allR [(blk by_ 115 [(Value.func (.yield l) #[] #[])]), (blk bf 134 [(Value.func (.func 88) #[] #[(bptr b1 0), (bptr by_ 0), (bptr bf 0)])]), allR [(blk b5 104 (ints (curA R arr band t))), G0]]).S w65 w65 [(blk b5 104 (ints (curA R arr band t))), (blk by_ 115 [(Value.func (.yield l) #[] #[])]), (blk bf 134 [(Value.func (.func 88) #[] #[(bptr b1 0), (bptr by_ 0), (bptr bf 0)])]), G0, (rob b1 33 [vr]), (sl vr 2 R.length (pairs R))] := (hD _ _ _ hj).2.upk2
  refine c_seq ?_
  refine c_seq ?_
  refine c_region ?_
  refine st hA64 (op_move rfl (hA64.ev rfl)) rfl rfl (by decide) fun a68 hA69 => ?_; clear hA64 a63
  refine st hA69 (op_field rfl fd_33_0 (hA69.ev rfl)) rfl rfl (by decide) fun a70 hA71 => ?_; clear hA69 a68
  refine st hA71 (op_load1 rfl ty_28 (hA71.ev rfl) (hS67.rk 4 rfl) rfl) rfl rfl (by decide) fun a72 hA73 => ?_; clear hA71 a70
  refine st hA73 (op_move rfl (hA73.ev rfl)) rfl rfl (by decide) fun a74 hA75 => ?_; clear hA73 a72
  refine st hA75 (op_indexS rfl un_28 ty_42 (hA75.ev rfl) (i := band) (hA75.ev rfl) (hS67.sk 5 rfl) (by decide) (by omega)) rfl rfl (by decide) fun a76 hA77 => ?_; clear hA75 a74
  refine st hA77 (op_fieldS rfl fd_42_1 (hA77.ev rfl) (hS67.sk 5 rfl) (by rw [((hS67.sk 5 rfl)).1]; omega)) rfl rfl (by decide) fun a78 hA79 => ?_; clear hA77 a76
  refine st hA79 (op_load1E rfl ty_3 (hA79.ev rfl) (hS67.sk 5 rfl) (pairs_at1 (by omega))) rfl rfl (by decide) fun a80 hA81 => ?_; clear hA79 a78
  refine st hA81 (op_leq rfl (hA81.ev rfl) (hA81.ev rfl)) rfl rfl (by decide) fun a82 hA83 => ?_; clear hA81 a80
  refine wl_nil ?_
  refine then_n ?_
  by_cases hb84 : (lowF R arr band + (t : Int)) ≤ ((R.getD band (0, 0)).2)
  ·skip
   rw [decide_eq_true hb84] at hA83
   have hlt := cnt_lt hb84; have hnb : 0 ≤ lowF R arr band + (t : Int) ∧ lowF R arr band + (t : Int) ≤ 1000 := by have hb2 := hR.2 band; omega
   refine c_true hA83 rfl ?_
   refine c_skip ?_
   refine then_n ?_
   refine c_seq ?_
   refine c_block ?_
   refine c_seq ?_
   have hA85 := hA83.as [(9, (Value.int .i64 (lowF R arr band + (t : Int)))), (5, (bptr b5 0)), (1, (Value.int .i64 (band : Int))), (2, (bptr b1 0)), (4, (bptr bf 0))] rfl; clear hA83
   refine c_region ?_
   refine st hA85 (op_move rfl (hA85.ev rfl)) rfl rfl (by decide) fun a86 hA87 => ?_; clear hA85 a82
   refine st hA87 (op_move rfl (hA87.ev rfl)) rfl rfl (by decide) fun a88 hA89 => ?_; clear hA87 a86
   refine st hA89 (op_indexA rfl un_104 ty_3 (hA89.ev rfl) (i := band) (hA89.ev rfl) (by omega)) rfl rfl (by decide) fun a90 hA91 => ?_; clear hA89 a88
   refine sts hA91 (op_store hS67 rfl ty_3 (hA91.ev rfl) (hA91.ev rfl) (i := 0) rfl (vs := [(Value.int .i64 (lowF R arr band + (t : Int)))]) rfl rfl rfl (by simp only [ints, List.length_map, curA_len]; omega)) rfl rfl ?_
   intro _ w92 hS93 hA95; have hS94 := hS93.blk_say (i := 0) rfl (cs' := (ints (arr.set band (lowF R arr band + (t : Int))))) (by rw [setFrom_one, Nat.mul_one, Nat.zero_add, ints_set, curA_set]; rfl); clear hS93 hA91 hS67
   refine wl_nil ?_
   refine then_n ?_
   refine c_seq ?_
   refine c_region ?_
   refine st hA95 (op_load1 rfl ty_134 (hA95.ev rfl) (hS94.bk 2 rfl) rfl) rfl rfl (by decide) fun a96 hA97 => ?_; clear hA95 a90
   refine st hA97 (op_loadA rfl ty_104 (hA97.ev rfl) (hS94.bk 0 rfl) (l := (ints (arr.set band (lowF R arr band + (t : Int))))) (drop_take_all _ _ (by simp only [ints, List.length_map, List.length_set]; omega)) (by simp only [ints, List.length_map, List.length_set]; omega)) rfl rfl (by decide) fun a98 hA99 => ?_; clear hA97 a96
   refine st hA99 (op_move rfl (hA99.ev rfl)) rfl rfl (by decide) fun a100 hA101 => ?_; clear hA99 a98
   refine st hA101 (op_add rfl (hA101.ev rfl) (evc _ _) (by omega) (by omega)) rfl rfl (by decide) fun a102 hA103 => ?_; clear hA101 a100
   have hK104 : Sep (allR [(blk by_ 115 [(Value.func (.yield l) #[] #[])]), (blk bf 134 [(Value.func (.func 88) #[] #[(bptr b1 0), (bptr by_ 0), (bptr bf 0)])]), allR [(blk b5 104 (ints (curA R arr band t))), G0]]).S w65 w92 [(blk b5 104 (ints (arr.set band (lowF R arr band + (t : Int))))), (blk by_ 115 [(Value.func (.yield l) #[] #[])]), (blk bf 134 [(Value.func (.func 88) #[] #[(bptr b1 0), (bptr by_ 0), (bptr bf 0)])]), G0] := hS94.keep [0, 1, 2, 3] (by decide) _ rfl rfl
   have hj105 := hJ _ _ _ _ _ hj (Sep.pk2 (D := []) hK104 rfl rfl rfl hG0).one rfl
   obtain ⟨rest, hrest⟩ := fromF_split (m := m) hlt
   refine stw hA103 (op_callv rfl (hA103.ev rfl) en_88 (ev2 (hA103.ev rfl) (hA103.ev rfl)) (hih _ rfl _ (pre ++ fromUpto R m arr band t) (rest ++ post) _ (ratesV_set harr hnb) (by rw [hLS, hrest]; simp only [List.append_assoc]) (by rw [List.length_append]; exact hj105))) rfl rfl (by decide) ?_
   rintro a106 v110 w108 hv109 hA107; clear hA103 hS94 a102
   rcases hv109 with ⟨rfl, hj111⟩ | ⟨rfl, hj111⟩
   ·skip
    refine st hA107 (op_not rfl (hA107.ev rfl)) rfl rfl (by decide) fun a112 hA113 => ?_; clear hA107 a106
    refine wl_nil ?_
    refine then_n ?_
    refine c_false hA113 rfl ?_
    refine c_skip ?_
    refine blk_n ?_
    refine then_n ?_
    have hA114 := hA113.as [(9, (Value.int .i64 (lowF R arr band + (t : Int)))), (5, (bptr b5 0)), (1, (Value.int .i64 (band : Int))), (2, (bptr b1 0)), (4, (bptr bf 0))] rfl; clear hA113
    refine c_region ?_
    refine st hA114 (op_move rfl (hA114.ev rfl)) rfl rfl (by decide) fun a115 hA116 => ?_; clear hA114 a112
    refine st hA116 (op_add rfl (hA116.ev rfl) (evc _ _) (by omega) (by omega)) rfl rfl (by decide) fun a117 hA118 => ?_; clear hA116 a115
    refine st hA118 (op_assign rfl (hA118.ev rfl)) rfl rfl (by decide) fun a119 hA120 => ?_; clear hA118 a117
    refine wl_nil ?_
    rw [show lowF R arr band + (t : Int) + 1 = lowF R arr band + ((t + 1 : Nat) : Int) from by omega] at hA120
    exact then_n ⟨t + 1, ⟨hA120.as _ rfl, trivial, hlt, (by rw [fromUpto_succ, List.length_append, ← Nat.add_assoc]; rw [List.length_append] at hj111; exact hj111)⟩, by omega⟩
   ·skip
    refine st hA107 (op_not rfl (hA107.ev rfl)) rfl rfl (by decide) fun a121 hA122 => ?_; clear hA107 a106
    refine wl_nil ?_
    refine then_n ?_
    refine c_true hA122 rfl ?_
    refine c_seq ?_
    have hA123 := hA122.as [] rfl; clear hA122
    refine c_region ?_
    refine st hA123 (op_assign rfl (evc _ _)) rfl rfl (by decide) fun a124 hA125 => ?_; clear hA123 a121
    refine wl_nil ?_
    refine then_n ?_
    refine c_ret ?_
    refine blk_ret ?_
    refine then_ret ?_
    refine then_ret ?_
    refine blk_ret ?_
    refine then_ret ?_
    refine fin_run hA125 (.inl rfl) (run_results1 hA125 rfl (.tmp rfl)) ?_
    obtain ⟨kx, hjx⟩ := hj111
    exact .inr ⟨rfl, _, hJx _ _ _ _ _ hjx (Sep.pk1 (D := []) (Sep.keep (hDx _ _ _ hjx).2.upk2 [1, 2, 3] (by decide) _ rfl rfl) rfl rfl hG0).one rfl⟩
  ·skip
   rw [decide_eq_false hb84] at hA83
   have hte := cnt_eq hb84 ht
   refine c_false hA83 rfl ?_
   refine c_exit ?_
   refine then_exit ?_
   refine then_exit ?_
   refine blk_hit ?_
   refine then_n ?_
   refine c_seq ?_
   have hA126 := hA83.as [] rfl; clear hA83
   refine c_region ?_
   refine st hA126 (op_assign rfl (evc _ _)) rfl rfl (by decide) fun a127 hA128 => ?_; clear hA126 a82
   refine wl_nil ?_
   refine then_n ?_
   refine c_ret ?_
   refine fin_run hA128 (.inl rfl) (run_results1 hA128 rfl (.tmp rfl)) ?_
   exact .inl ⟨rfl, by rw [fromF_end, ← hte]; exact hJ _ _ _ _ _ hj (Sep.pk1 (D := []) (Sep.keep (hD _ _ _ hj).2.upk2 [1, 2, 3] (by decide) _ rfl rfl) rfl rfl hG0).one rfl⟩
 ·skip
  rw [decide_eq_false hb40] at hA39
  refine c_false hA39 rfl ?_
  refine c_skip ?_
  refine then_n ?_
  refine c_seq ?_
  refine c_seq ?_
  rw [show (R.getD band (0, 0)).1 = lowF R arr band + ((0 : Nat) : Int) from (by rw [show lowF R arr band + ((0 : Nat) : Int) = lowF R arr band from Int.add_zero _]; first | exact (lowF_pos (by assumption)).symm | exact (lowF_zero (by assumption)).symm)] at hA39
  refine c_region ?_
  refine st hA39 (op_move rfl (hA39.ev rfl)) rfl rfl (by decide) fun a129 hA130 => ?_; clear hA39 a38
  refine st hA130 (op_assign rfl (hA130.ev rfl)) rfl rfl (by decide) fun a131 hA132 => ?_; clear hA130 a129
  refine wl_nil ?_
  refine then_n ?_
  refine c_block ?_
  have hK133 : Sep (allR [(blk by_ 115 [(Value.func (.yield l) #[] #[])]), (blk bf 134 [(Value.func (.func 88) #[] #[(bptr b1 0), (bptr by_ 0), (bptr bf 0)])]), G0]).S W w4 [(blk b5 104 (ints arr)), (blk by_ 115 [(Value.func (.yield l) #[] #[])]), (blk bf 134 [(Value.func (.func 88) #[] #[(bptr b1 0), (bptr by_ 0), (bptr bf 0)])]), G0] := hS6.keep [0, 1, 2, 3] (by decide) _ rfl rfl
  have hj134 := hJ _ _ _ _ _ h0 (Sep.pk2 (D := []) hK133 rfl rfl rfl hG0).one rfl
  have hA135 := hA132.as [(9, (Value.int .i64 (lowF R arr band + ((0 : Nat) : Int)))), (5, (bptr b5 0)), (1, (Value.int .i64 (band : Int))), (2, (bptr b1 0)), (4, (bptr bf 0))] rfl; clear hA132
  refine c_loop (G := Nat) (fun (t : Nat) a_ w_ => Fr 52 [] [(9, (Value.int .i64 (lowF R arr band + (t : Int)))), (5, (bptr b5 0)), (1, (Value.int .i64 (band : Int))), (2, (bptr b1 0)), (4, (bptr bf 0))] a_ ∧ True ∧ (t ≤ cntF R arr band) ∧ (J (pre.length + (fromUpto R m arr band t).length) (allR [(blk by_ 115 [(Value.func (.yield l) #[] #[])]), (blk bf 134 [(Value.func (.func 88) #[] #[(bptr b1 0), (bptr by_ 0), (bptr bf 0)])]), allR [(blk b5 104 (ints (curA R arr band t))), G0]]) w_)) (fun t => cntF R arr band - t) 0 ⟨hA135.as _ rfl, trivial, (Nat.zero_le _), hj134⟩ ?_
  clear hA135 hS6 a131
  rintro t a136 w138 ⟨hA137, hS139, ht, hj⟩
  clear hS139
  have hS140 : Sep (allR [(blk by_ 115 [(Value.func (.yield l) #[] #[])]), (blk bf 134 [(Value.func (.func 88) #[] #[(bptr b1 0), (bptr by_ 0), (bptr bf 0)])]), allR [(blk b5 104 (ints (curA R arr band t))), G0]]).S w138 w138 [(blk b5 104 (ints (curA R arr band t))), (blk by_ 115 [(Value.func (.yield l) #[] #[])]), (blk bf 134 [(Value.func (.func 88) #[] #[(bptr b1 0), (bptr by_ 0), (bptr bf 0)])]), G0, (rob b1 33 [vr]), (sl vr 2 R.length (pairs R))] := (hD _ _ _ hj).2.upk2
  refine c_seq ?_
  refine c_seq ?_
  refine c_region ?_
  refine st hA137 (op_move rfl (hA137.ev rfl)) rfl rfl (by decide) fun a141 hA142 => ?_; clear hA137 a136
  refine st hA142 (op_field rfl fd_33_0 (hA142.ev rfl)) rfl rfl (by decide) fun a143 hA144 => ?_; clear hA142 a141
  refine st hA144 (op_load1 rfl ty_28 (hA144.ev rfl) (hS140.rk 4 rfl) rfl) rfl rfl (by decide) fun a145 hA146 => ?_; clear hA144 a143
  refine st hA146 (op_move rfl (hA146.ev rfl)) rfl rfl (by decide) fun a147 hA148 => ?_; clear hA146 a145
  refine st hA148 (op_indexS rfl un_28 ty_42 (hA148.ev rfl) (i := band) (hA148.ev rfl) (hS140.sk 5 rfl) (by decide) (by omega)) rfl rfl (by decide) fun a149 hA150 => ?_; clear hA148 a147
  refine st hA150 (op_fieldS rfl fd_42_1 (hA150.ev rfl) (hS140.sk 5 rfl) (by rw [((hS140.sk 5 rfl)).1]; omega)) rfl rfl (by decide) fun a151 hA152 => ?_; clear hA150 a149
  refine st hA152 (op_load1E rfl ty_3 (hA152.ev rfl) (hS140.sk 5 rfl) (pairs_at1 (by omega))) rfl rfl (by decide) fun a153 hA154 => ?_; clear hA152 a151
  refine st hA154 (op_leq rfl (hA154.ev rfl) (hA154.ev rfl)) rfl rfl (by decide) fun a155 hA156 => ?_; clear hA154 a153
  refine wl_nil ?_
  refine then_n ?_
  by_cases hb157 : (lowF R arr band + (t : Int)) ≤ ((R.getD band (0, 0)).2)
  ·skip
   rw [decide_eq_true hb157] at hA156
   have hlt := cnt_lt hb157; have hnb : 0 ≤ lowF R arr band + (t : Int) ∧ lowF R arr band + (t : Int) ≤ 1000 := by have hb2 := hR.2 band; omega
   refine c_true hA156 rfl ?_
   refine c_skip ?_
   refine then_n ?_
   refine c_seq ?_
   refine c_block ?_
   refine c_seq ?_
   have hA158 := hA156.as [(9, (Value.int .i64 (lowF R arr band + (t : Int)))), (5, (bptr b5 0)), (1, (Value.int .i64 (band : Int))), (2, (bptr b1 0)), (4, (bptr bf 0))] rfl; clear hA156
   refine c_region ?_
   refine st hA158 (op_move rfl (hA158.ev rfl)) rfl rfl (by decide) fun a159 hA160 => ?_; clear hA158 a155
   refine st hA160 (op_move rfl (hA160.ev rfl)) rfl rfl (by decide) fun a161 hA162 => ?_; clear hA160 a159
   refine st hA162 (op_indexA rfl un_104 ty_3 (hA162.ev rfl) (i := band) (hA162.ev rfl) (by omega)) rfl rfl (by decide) fun a163 hA164 => ?_; clear hA162 a161
   refine sts hA164 (op_store hS140 rfl ty_3 (hA164.ev rfl) (hA164.ev rfl) (i := 0) rfl (vs := [(Value.int .i64 (lowF R arr band + (t : Int)))]) rfl rfl rfl (by simp only [ints, List.length_map, curA_len]; omega)) rfl rfl ?_
   intro _ w165 hS166 hA168; have hS167 := hS166.blk_say (i := 0) rfl (cs' := (ints (arr.set band (lowF R arr band + (t : Int))))) (by rw [setFrom_one, Nat.mul_one, Nat.zero_add, ints_set, curA_set]; rfl); clear hS166 hA164 hS140
   refine wl_nil ?_
   refine then_n ?_
   refine c_seq ?_
   refine c_region ?_
   refine st hA168 (op_load1 rfl ty_134 (hA168.ev rfl) (hS167.bk 2 rfl) rfl) rfl rfl (by decide) fun a169 hA170 => ?_; clear hA168 a163
   refine st hA170 (op_loadA rfl ty_104 (hA170.ev rfl) (hS167.bk 0 rfl) (l := (ints (arr.set band (lowF R arr band + (t : Int))))) (drop_take_all _ _ (by simp only [ints, List.length_map, List.length_set]; omega)) (by simp only [ints, List.length_map, List.length_set]; omega)) rfl rfl (by decide) fun a171 hA172 => ?_; clear hA170 a169
   refine st hA172 (op_move rfl (hA172.ev rfl)) rfl rfl (by decide) fun a173 hA174 => ?_; clear hA172 a171
   refine st hA174 (op_add rfl (hA174.ev rfl) (evc _ _) (by omega) (by omega)) rfl rfl (by decide) fun a175 hA176 => ?_; clear hA174 a173
   have hK177 : Sep (allR [(blk by_ 115 [(Value.func (.yield l) #[] #[])]), (blk bf 134 [(Value.func (.func 88) #[] #[(bptr b1 0), (bptr by_ 0), (bptr bf 0)])]), allR [(blk b5 104 (ints (curA R arr band t))), G0]]).S w138 w165 [(blk b5 104 (ints (arr.set band (lowF R arr band + (t : Int))))), (blk by_ 115 [(Value.func (.yield l) #[] #[])]), (blk bf 134 [(Value.func (.func 88) #[] #[(bptr b1 0), (bptr by_ 0), (bptr bf 0)])]), G0] := hS167.keep [0, 1, 2, 3] (by decide) _ rfl rfl
   have hj178 := hJ _ _ _ _ _ hj (Sep.pk2 (D := []) hK177 rfl rfl rfl hG0).one rfl
   obtain ⟨rest, hrest⟩ := fromF_split (m := m) hlt
   refine stw hA176 (op_callv rfl (hA176.ev rfl) en_88 (ev2 (hA176.ev rfl) (hA176.ev rfl)) (hih _ rfl _ (pre ++ fromUpto R m arr band t) (rest ++ post) _ (ratesV_set harr hnb) (by rw [hLS, hrest]; simp only [List.append_assoc]) (by rw [List.length_append]; exact hj178))) rfl rfl (by decide) ?_
   rintro a179 v183 w181 hv182 hA180; clear hA176 hS167 a175
   rcases hv182 with ⟨rfl, hj184⟩ | ⟨rfl, hj184⟩
   ·skip
    refine st hA180 (op_not rfl (hA180.ev rfl)) rfl rfl (by decide) fun a185 hA186 => ?_; clear hA180 a179
    refine wl_nil ?_
    refine then_n ?_
    refine c_false hA186 rfl ?_
    refine c_skip ?_
    refine blk_n ?_
    refine then_n ?_
    have hA187 := hA186.as [(9, (Value.int .i64 (lowF R arr band + (t : Int)))), (5, (bptr b5 0)), (1, (Value.int .i64 (band : Int))), (2, (bptr b1 0)), (4, (bptr bf 0))] rfl; clear hA186
    refine c_region ?_
    refine st hA187 (op_move rfl (hA187.ev rfl)) rfl rfl (by decide) fun a188 hA189 => ?_; clear hA187 a185
    refine st hA189 (op_add rfl (hA189.ev rfl) (evc _ _) (by omega) (by omega)) rfl rfl (by decide) fun a190 hA191 => ?_; clear hA189 a188
    refine st hA191 (op_assign rfl (hA191.ev rfl)) rfl rfl (by decide) fun a192 hA193 => ?_; clear hA191 a190
    refine wl_nil ?_
    rw [show lowF R arr band + (t : Int) + 1 = lowF R arr band + ((t + 1 : Nat) : Int) from by omega] at hA193
    exact then_n ⟨t + 1, ⟨hA193.as _ rfl, trivial, hlt, (by rw [fromUpto_succ, List.length_append, ← Nat.add_assoc]; rw [List.length_append] at hj184; exact hj184)⟩, by omega⟩
   ·skip
    refine st hA180 (op_not rfl (hA180.ev rfl)) rfl rfl (by decide) fun a194 hA195 => ?_; clear hA180 a179
    refine wl_nil ?_
    refine then_n ?_
    refine c_true hA195 rfl ?_
    refine c_seq ?_
    have hA196 := hA195.as [] rfl; clear hA195
    refine c_region ?_
    refine st hA196 (op_assign rfl (evc _ _)) rfl rfl (by decide) fun a197 hA198 => ?_; clear hA196 a194
    refine wl_nil ?_
    refine then_n ?_
    refine c_ret ?_
    refine blk_ret ?_
    refine then_ret ?_
    refine then_ret ?_
    refine blk_ret ?_
    refine then_ret ?_
    refine fin_run hA198 (.inl rfl) (run_results1 hA198 rfl (.tmp rfl)) ?_
    obtain ⟨kx, hjx⟩ := hj184
    exact .inr ⟨rfl, _, hJx _ _ _ _ _ hjx (Sep.pk1 (D := []) (Sep.keep (hDx _ _ _ hjx).2.upk2 [1, 2, 3] (by decide) _ rfl rfl) rfl rfl hG0).one rfl⟩
  ·skip
   rw [decide_eq_false hb157] at hA156
   have hte := cnt_eq hb157 ht
   refine c_false hA156 rfl ?_
   refine c_exit ?_
   refine then_exit ?_
   refine then_exit ?_
   refine blk_hit ?_
   refine then_n ?_
   refine c_seq ?_
   have hA199 := hA156.as [] rfl; clear hA156
   refine c_region ?_
   refine st hA199 (op_assign rfl (evc _ _)) rfl rfl (by decide) fun a200 hA201 => ?_; clear hA199 a155
   refine wl_nil ?_
   refine then_n ?_
   refine c_ret ?_
   refine fin_run hA201 (.inl rfl) (run_results1 hA201 rfl (.tmp rfl)) ?_
   exact .inl ⟨rfl, by rw [fromF_end, ← hte]; exact hJ _ _ _ _ _ hj (Sep.pk1 (D := []) (Sep.keep (hD _ _ _ hj).2.upk2 [1, 2, 3] (by decide) _ rfl rfl) rfl rfl hG0).one rfl⟩
theorem lists_from (l b1 by_ bf : Nat) (vr : Value) (R : List (Int × Int)) (hR : MatV R) (J Jx : Nat → Res → World → Prop) (hJ : ∀ k G W G' W', J k G W → Sep G.S W W' [G'] → G'.own = true → J k G' W') (hJx : ∀ k G W G' W', Jx k G W → Sep G.S W W' [G'] → G'.own = true → Jx k G' W') (hD : ∀ k G W, J k G W → G.own = true ∧ Sep G.S W W (G :: [rob b1 33 [vr], sl vr 2 R.length (pairs R)])) (hDx : ∀ k G W, Jx k G W → G.own = true ∧ Sep G.S W W (G :: [rob b1 33 [vr], sl vr 2 R.length (pairs R)])) (LS : List (List Int)) (hy : ∀ k, k < LS.length → ∀ G W1, J k G W1 → YT Try.prog l #[.agg (ints (LS.getD k [])).toArray] W1 (fun v W' => (v = .bool true ∧ J (k + 1) G W') ∨ (v = .bool false ∧ Jx k G W'))) :
  ∀ (m : Nat) (G0 : Res), G0.own = true → ∀ (arr : List Int) (band : Nat) (pre post : List (List Int)) (W : World), RatesV arr → band + m = R.length → LS = pre ++ (fromF R m arr band ++ post) → J pre.length (allR [(blk by_ 115 [(Value.func (.yield l) #[] #[])]), (blk bf 134 [(Value.func (.func 88) #[] #[(bptr b1 0), (bptr by_ 0), (bptr bf 0)])]), G0]) W →
  Calls Try.prog 88 #[.agg (ints arr).toArray, .int .i64 (band : Int), bptr b1 0, bptr by_ 0, bptr bf 0] W (Ret fun v W' => (v = .bool true ∧ J (pre.length + (fromF R m arr band).length) (allR [(blk by_ 115 [(Value.func (.yield l) #[] #[])]), (blk bf 134 [(Value.func (.func 88) #[] #[(bptr b1 0), (bptr by_ 0), (bptr bf 0)])]), G0]) W') ∨ (v = .bool false ∧ ∃ k, Jx k (allR [(blk by_ 115 [(Value.func (.yield l) #[] #[])]), (blk bf 134 [(Value.func (.func 88) #[] #[(bptr b1 0), (bptr by_ 0), (bptr bf 0)])]), G0]) W'))
 | 0, G0, hG0, arr, band, pre, post, W, harr, hb, hLS, h0 => lists_leaf l b1 by_ bf vr R hR J Jx hJ hJx hD hDx LS hy G0 hG0 arr band pre post W harr (by omega) hLS h0
 | m + 1, G0, hG0, arr, band, pre, post, W, harr, hb, hLS, h0 => lists_step l b1 by_ bf vr R hR J Jx hJ hJx hD hDx LS hy G0 hG0 arr band pre post W harr m hb (fun G0 hG0 arr pre post W harr hLS h0 => lists_from l b1 by_ bf vr R hR J Jx hJ hJx hD hDx LS hy m G0 hG0 arr (band + 1) pre post W harr (by omega) hLS h0) hLS h0
theorem rates0 : RatesV [0, 0, 0] := by
 refine ⟨rfl, fun i => ?_⟩
 match i with
 | 0 => decide
 | 1 => decide
 | 2 => decide
 | i + 3 => simp
theorem lists_it (b1 : Nat) (vr : Value) (R : List (Int × Int)) (hR : MatV R) (G0 : Res) (hG0 : G0.own = true) :
  IterG Try.prog 87 #[bptr b1 0] G0 [rob b1 33 [vr], sl vr 2 R.length (pairs R)] (listsF R).length (fun k => #[.agg (ints ((listsF R).getD k [])).toArray]) := by
 intro l J Jx W hJ hJx hD hDx h0 hy
 refine calls_enter Try.func87 rfl fun a0 hA0 => ?_
 replace hA0 : Fr 8 [] [(0, (Value.func (.yield l) #[] #[])), (1, (bptr b1 0))] a0 := hA0
 have hS0 : Sep G0.S W W [G0, (rob b1 33 [vr]), (sl vr 2 R.length (pairs R))] := (hD _ _ _ h0).2
 refine c_seq ?_
 refine c_region ?_
 refine stw hA0 (op_box hS0 rfl (hA0.ev rfl) (cs := [(Value.func (.yield l) #[] #[])]) rfl) rfl rfl (by decide) ?_
 rintro a1 _ w3 ⟨b4, rfl, hS5⟩ hA2; clear hA0 hS0 a0
 refine wl_nil ?_
 refine then_n ?_
 refine c_seq ?_
 refine c_region ?_
 refine stw hA2 (op_alloc hS5 rfl ze_134 (cs := [Value.nilFunc]) rfl) rfl rfl (by decide) ?_
 rintro a6 _ w8 ⟨b9, rfl, hS10⟩ hA7; clear hA2 hS5 a1
 refine wl_nil ?_
 refine then_n ?_
 refine c_seq ?_
 refine c_region ?_
 refine st hA7 (op_makeFunc rfl ev0 (ev3 (hA7.ev rfl) (hA7.ev rfl) (hA7.ev rfl))) rfl rfl (by decide) fun a11 hA12 => ?_; clear hA7 a6
 refine sts hA12 (op_store hS10 rfl ty_134 (hA12.ev rfl) (hA12.ev rfl) (i := 0) rfl (vs := [(Value.func (.func 88) #[] #[(bptr b1 0), (bptr b4 0), (bptr b9 0)])]) rfl rfl rfl (Nat.le_of_ble_eq_true rfl)) rfl rfl ?_
 intro _ w13 hS14 hA15; clear hA12
 have hS16 : Sep G0.S W w13 [(blk b9 134 [(Value.func (.func 88) #[] #[(bptr b1 0), (bptr b4 0), (bptr b9 0)])]), (blk b4 115 [(Value.func (.yield l) #[] #[])]), G0, (rob b1 33 [vr]), (sl vr 2 R.length (pairs R))] := hS14; clear hS14 hS10
 refine wl_nil ?_
 refine then_n ?_
 refine c_region ?_
 refine st hA15 (op_load1 rfl ty_134 (hA15.ev rfl) (hS16.bk 0 rfl) rfl) rfl rfl (by decide) fun a17 hA18 => ?_; clear hA15 a11
 refine st hA18 (op_build rfl pv0 bd_104_) rfl rfl (by decide) fun a19 hA20 => ?_; clear hA18 a17
 have hK21 : Sep G0.S W w13 [(blk b4 115 [(Value.func (.yield l) #[] #[])]), (blk b9 134 [(Value.func (.func 88) #[] #[(bptr b1 0), (bptr b4 0), (bptr b9 0)])]), G0] := hS16.keep [1, 0, 2] (by decide) _ rfl rfl
 have hj22 := hJ _ _ _ _ _ h0 (Sep.pk1 (D := []) hK21 rfl rfl hG0).one rfl
 refine stw hA20 (op_callv rfl (hA20.ev rfl) en_88 (ev2 (hA20.ev rfl) (evc _ _)) (lists_from l b1 b4 b9 vr R hR J Jx hJ hJx hD hDx (listsF R) hy R.length _ hG0 [0, 0, 0] 0 [] [] _ rates0 (Nat.zero_add _) (List.append_nil _).symm hj22)) rfl rfl (by decide) ?_
 rintro a23 v27 w25 hv26 hA24; clear hA20 hS16 a19
 refine wl_nil ?_
 refine fin_run hA24 (.inr rfl) (run_results0 rfl _) ?_
 rcases hv26 with ⟨_, hj⟩ | ⟨_, k, hj⟩
 ·exact .inl (by rw [← Nat.zero_add (listsF R).length]; exact hJ _ _ _ _ _ hj (Sep.keep (hD _ _ _ hj).2.upk1 [2] (by decide) _ rfl rfl) hG0)
 ·exact .inr ⟨k, hJx _ _ _ _ _ hj (Sep.keep (hDx _ _ _ hj).2.upk1 [2] (by decide) _ rfl rfl) hG0⟩
theorem lists_ok (vr : Value) (w : World) :
  Calls Try.prog 65 #[(Value.agg #[vr])] w (Ret fun v w' => ∃ b1, v = .func (.func 87) #[] #[bptr b1 0] ∧ Sep NoB w w' [blk b1 33 [vr]]) := by
 refine calls_enter Try.func65 rfl fun a0 hA0 => ?_
 replace hA0 : Fr 4 [] [(0, (Value.agg #[vr]))] a0 := hA0
 have hS0 : Sep NoB w w [] := Sep.start _ _
 refine c_seq ?_
 refine c_region ?_
 refine stw hA0 (op_box hS0 rfl (hA0.ev rfl) (cs := [vr]) rfl) rfl rfl (by decide) ?_
 rintro a1 _ w3 ⟨b4, rfl, hS5⟩ hA2; clear hA0 hS0 a0
 refine st hA2 (op_assign rfl (evc _ _)) rfl rfl (by decide) fun a6 hA7 => ?_; clear hA2 a1
 refine wl_nil ?_
 refine then_n ?_
 refine c_seq ?_
 refine c_region ?_
 refine st hA7 (op_makeFunc rfl ev0 (ev1 (hA7.ev rfl))) rfl rfl (by decide) fun a8 hA9 => ?_; clear hA7 a6
 refine st hA9 (op_assign rfl (hA9.ev rfl)) rfl rfl (by decide) fun a10 hA11 => ?_; clear hA9 a8
 refine wl_nil ?_
 refine then_n ?_
 refine c_ret ?_
 refine fin_run hA11 (.inl rfl) (run_results1 hA11 rfl (.tmp rfl)) ?_
 exact ⟨_, rfl, hS5⟩
end Go.Proofs.Ytkkglkdnnfegkaa

namespace Go.Proofs.Ytkkglkdnnfegkaa
open Go.RowKit Go.Shelf Go.Eng
theorem ze_29 : (Try.prog.info? 29).bind (·.zero) = some (Value.int .i64 0) := by kernel_rfl
theorem en_64 : ∀ args w, (callFunc 64 args).run Try.prog w = .ok (.enter 64 args) w := enters_of Try.func64 (by kernel_rfl) rfl
theorem en_63 : ∀ args w, (callFunc 63 args).run Try.prog w = .ok (.enter 63 args) w := enters_of Try.func63 (by kernel_rfl) rfl
theorem en_65 : ∀ args w, (callFunc 65 args).run Try.prog w = .ok (.enter 65 args) w := enters_of Try.func65 (by kernel_rfl) rfl
theorem en_87 : ∀ args w, (callFunc 87 args).run Try.prog w = .ok (.enter 87 args) w := enters_of Try.func87 (by kernel_rfl) rfl
theorem ty_29 : tyK Try.prog 29 = some (false, 1) := by kernel_rfl
theorem check_ok (R : List (Int × Int)) (vr : Value) (w : World) (hm : SlAt w vr 2 R.length (pairs R)) (hlen : R.length ≤ 1000000) :
  Calls Try.prog 37 #[(Value.agg #[vr])] w (Ret fun v w' => v = .int .i64 (checkF R) ∧ Ext NoB w w') := by
 refine calls_enterM Try.func37 rfl fun a0 hA0 => ?_
 replace hA0 : Fr 17 (marks []) [(0, (Value.agg #[vr]))] a0 := hA0
 have hS0 : Sep NoB w w [(marksR []), (sl vr 2 R.length (pairs R))] := sep_marks (sep_ro ⟨rfl, hm, trivial⟩)
 refine c_seq ?_
 refine c_region ?_
 refine stw hA0 (op_box hS0 rfl (hA0.ev rfl) (cs := [vr]) rfl) rfl rfl (by decide) ?_
 rintro a1 _ w3 ⟨b4, rfl, hS5⟩ hA2; clear hA0 hS0 a0
 refine stw hA2 (op_alloc hS5 rfl ze_29 (cs := [(Value.int .i64 0)]) rfl) rfl rfl (by decide) ?_
 rintro a6 _ w8 ⟨b9, rfl, hS10⟩ hA7; clear hA2 hS5 a1
 refine wl_nil ?_
 refine then_n ?_
 refine c_seq ?_
 refine c_seq ?_
 refine c_region ?_
 refine st hA7 (op_field rfl fd_33_0 (hA7.ev rfl)) rfl rfl (by decide) fun a11 hA12 => ?_; clear hA7 a6
 refine st hA12 (op_load1 rfl ty_28 (hA12.ev rfl) (hS10.bk 1 rfl) rfl) rfl rfl (by decide) fun a13 hA14 => ?_; clear hA12 a11
 refine st hA14 (op_lenS rfl un_28 (hA14.ev rfl) (hS10.sk 3 rfl)) rfl rfl (by decide) fun a15 hA16 => ?_; clear hA14 a13
 refine stw hA16 (op_call rfl en_56 (ev3 (hA16.ev rfl) (evc _ _) (evc _ _)) (within_ok _ _ _ _)) rfl rfl (by decide) ?_
 rintro a17 _ W_ ⟨rfl, hW_⟩ hA18; have hW2_ := hW_.symm; subst hW2_; clear hW_ hA16 a15
 refine st hA18 (op_not rfl (hA18.ev rfl)) rfl rfl (by decide) fun a20 hA21 => ?_; clear hA18 a17
 refine st hA21 (op_move rfl (hA21.ev rfl)) rfl rfl (by decide) fun a22 hA23 => ?_; clear hA21 a20
 rcases Bool.eq_false_or_eq_true ((decide (1 ≤ (R.length : Int)) && decide ((R.length : Int) ≤ 3))) with hb24 | hb24
 ·skip
  rw [hb24] at hA23
  have hq25 := hb24; simp only [Bool.and_eq_true, Bool.and_eq_false_iff, decide_eq_true_eq, decide_eq_false_iff_not] at hq25
  refine stg hA23 (op_field rfl fd_33_0 (hA23.ev rfl)) rfl rfl rfl rfl (by decide) fun a26 hA27 => ?_; clear hA23 a22
  refine stg hA27 (op_load1 rfl ty_28 (hA27.ev rfl) (hS10.bk 1 rfl) rfl) rfl rfl rfl rfl (by decide) fun a28 hA29 => ?_; clear hA27 a26
  refine stwg hA29 (op_call rfl en_63 (ev2 (hA29.ev rfl) (evf _ _)) (all_rng R _ 64 #[] #[] (fun i => rateB (R.getD i (0, 0))) _ (hS10.sk 3 rfl) (by omega) ⟨en_64, fun i hi W hW => rate_ok _ _ W⟩)) rfl rfl rfl rfl (by decide) ?_
  rintro a30 _ w32 ⟨rfl, hE33⟩ hA31; have hS34 := hS10.step hE33; clear hE33 hA29 hS10 a28
  refine stg hA31 (op_not rfl (hA31.ev rfl)) rfl rfl rfl rfl (by decide) fun a35 hA36 => ?_; clear hA31 a30
  refine st hA36 (op_pick_f rfl (hA36.ev rfl) (hA36.ev rfl)) rfl rfl (by decide) fun a37 hA38 => ?_; clear hA36 a35
  refine wl_nil ?_
  refine then_n ?_
  rcases Bool.eq_false_or_eq_true (((List.range R.length).all (fun i => rateB (R.getD i (0, 0))))) with hb39 | hb39
  ·skip
   rw [hb39] at hA38
   refine c_false hA38 rfl ?_
   refine c_skip ?_
   refine then_n ?_
   refine c_seq ?_
   refine c_seq ?_
   have hA40 := hA38.as [(2, (bptr b9 0)), (1, (bptr b4 0))] rfl; clear hA38
   refine c_region ?_
   refine st hA40 (op_loadA rfl ty_33 (hA40.ev rfl) (hS34.bk 1 rfl) (l := [vr]) rfl rfl) rfl rfl (by decide) fun a41 hA42 => ?_; clear hA40 a37
   refine stw hA42 (op_call rfl en_65 (ev1 (hA42.ev rfl)) (lists_ok _ _)) rfl rfl (by decide) ?_
   rintro a43 _ w45 ⟨bl48, rfl, hT46⟩ hA44; have hS47 := hS34.callS hT46 rfl; clear hT46 hA42 hS34 a41
   refine wl_nil ?_
   refine then_n ?_
   refine c_block ?_
   have hA49 := hA44.as [(15, (Value.func (.func 87) #[] #[(bptr bl48 0)])), (2, (bptr b9 0))] rfl; clear hA44
   have hR : MatV R := matV_of (by omega) (by assumption)
   have hS50 := hS47.nilR; clear hS47
   have hS51 : Sep NoB w w45 [(marksR []), nilR, (blk bl48 33 [vr]), (blk b9 29 [(Value.int .i64 0)]), (blk b4 33 [vr]), (sl vr 2 R.length (pairs R))] := hS50.keep [4, 0, 1, 2, 3, 5] (by decide) _ rfl rfl; clear hS50
   refine c_rangeG hA49 nilR rfl hS51 (hA49.ev rfl) en_87 ((listsF R).length) (fun k => #[.agg (ints ((listsF R).getD k [])).toArray]) (fun _ => rfl) [rob bl48 33 [vr], sl vr 2 R.length (pairs R)] (fun r hr => by simp only [List.mem_cons, List.not_mem_nil, or_false] at hr; rcases hr with rfl | rfl <;> rfl) (lists_it bl48 vr R hR _ rfl) (fun q L_ => L_ = [(blk bl48 33 [vr]), (blk b9 29 [(Value.int .i64 0)]), (blk b4 33 [vr]), (sl vr 2 R.length (pairs R))] ∧ (q = 0)) (fun L_ => L_ = [(blk bl48 33 [vr]), (blk b9 29 [(Value.int .i64 0)]), (blk b4 33 [vr]), (sl vr 2 R.length (pairs R))] ∧ (0 < (listsF R).length)) (some .ret) ⟨rfl, rfl⟩ (fun q L_ hI_ G_ W_ r1_ r2_ hW_ => by obtain ⟨rfl, hz⟩ := hI_; exact (Sep.keep (hW_.to_ro (i := 3) rfl) [2, 3, 6] (by decide) _ rfl rfl)) (fun L_ hI_ G_ W_ r1_ r2_ hW_ => by obtain ⟨rfl, hn⟩ := hI_; exact (Sep.keep (hW_.to_ro (i := 3) rfl) [2, 3, 6] (by decide) _ rfl rfl)) ?_ ?_ ?_
   ·skip
    intro q hq L_ hL_ G60 hG61 l57 D58 rc59 a52 w53 ha56 hS54; obtain ⟨rfl, hz⟩ := hL_
    have hA55 : Fr 17 [] [(16, (Value.agg (ints ((listsF R).getD q [])).toArray)), (15, (Value.func (.func 87) #[] #[(bptr bl48 0)])), (2, (bptr b9 0))] a52 := by rw [ha56]; exact Fr.round1 hA49 (by decide)
    clear ha56 hS51
    refine c_skip ?_
    refine ⟨rfl, _, hS54, ?_⟩; intro w62 hS63; clear hS54
    refine c_block ?_
    refine c_seq ?_
    refine c_region ?_
    refine sts hA55 (op_store hS63 rfl ty_29 (hA55.ev rfl) (evc _ _) (i := 4) rfl (vs := [(Value.int .i64 0)]) rfl rfl rfl (Nat.le_of_ble_eq_true rfl)) rfl rfl ?_
    intro _ w64 hS65 hA66; clear hA55
    have hS67 : Sep NoB w w64 [(obR l57 (.loop (rc59 .busy none))), (marksR (D58 :: [])), G60, (blk bl48 33 [vr]), (blk b9 29 [(Value.int .i64 0)]), (blk b4 33 [vr]), (sl vr 2 R.length (pairs R))] := hS65; clear hS65 hS63
    refine wl_nil ?_
    refine then_n ?_
    refine c_ret ?_
    refine blk_ret ?_
    exact re_ret rfl ⟨_, rfl, ⟨rfl, (Nat.lt_of_le_of_lt (Nat.zero_le _) hq)⟩⟩ hS67
   ·skip
    intro L_ hL_ D72 a68 w69 hA71 hS70; obtain ⟨rfl, hz⟩ := hL_; clear hA49 hS51
    refine blk_n ?_
    refine then_n ?_
    refine c_seq ?_
    refine c_region ?_
    refine sts hA71 (op_store hS70 rfl ty_29 (hA71.ev rfl) (evc _ _) (i := 3) rfl (vs := [(Value.int .i64 1)]) rfl rfl rfl (Nat.le_of_ble_eq_true rfl)) rfl rfl ?_
    intro _ w73 hS74 hA75; clear hA71
    have hS76 : Sep NoB w w73 [(marksR (D72 :: [])), nilR, (blk bl48 33 [vr]), (blk b9 29 [(Value.int .i64 1)]), (blk b4 33 [vr]), (sl vr 2 R.length (pairs R))] := hS74; clear hS74 hS70
    refine wl_nil ?_
    refine then_n ?_
    refine c_ret ?_
    refine fin_runM hA75 (.inl rfl) hS76 ?_
    intro w77 hS78; clear hS76
    refine ⟨_, (run_results1 hA75 rfl (.cell1 rfl ty_29 (hS78.bk 2 rfl) rfl)), ?_⟩
    exact ⟨ret_int (by unfold checkF allRateB; first | rw [if_pos ⟨by omega, by assumption⟩, if_pos (by omega)] | rw [if_pos ⟨by omega, by assumption⟩, if_neg (by omega)] | rw [if_neg (fun h => by first | omega | exact absurd (h.2.symm.trans (by assumption : (List.range R.length).all (fun i => rateB (R.getD i (0, 0))) = false)) (by decide))]), hS78.ext⟩
   ·skip
    intro c_ hc_; cases hc_
    intro L_ hL_ D83 a79 w80 hA82 hS81; obtain ⟨rfl, hn⟩ := hL_; clear hA49 hS51
    refine c_ret ?_
    refine blk_ret ?_
    refine then_ret ?_
    refine fin_runM hA82 (.inl rfl) hS81 ?_
    intro w84 hS85; clear hS81
    refine ⟨_, (run_results1 hA82 rfl (.cell1 rfl ty_29 (hS85.bk 2 rfl) rfl)), ?_⟩
    exact ⟨ret_int (by unfold checkF allRateB; first | rw [if_pos ⟨by omega, by assumption⟩, if_pos (by omega)] | rw [if_pos ⟨by omega, by assumption⟩, if_neg (by omega)] | rw [if_neg (fun h => by first | omega | exact absurd (h.2.symm.trans (by assumption : (List.range R.length).all (fun i => rateB (R.getD i (0, 0))) = false)) (by decide))]), hS85.ext⟩
  ·skip
   rw [hb39] at hA38
   refine c_true hA38 rfl ?_
   refine c_seq ?_
   have hA86 := hA38.as [(2, (bptr b9 0))] rfl; clear hA38
   refine c_region ?_
   refine sts hA86 (op_store hS34 rfl ty_29 (hA86.ev rfl) (evc _ _) (i := 0) rfl (vs := [(Value.int .i64 1)]) rfl rfl rfl (Nat.le_of_ble_eq_true rfl)) rfl rfl ?_
   intro _ w87 hS88 hA89; clear hA86
   have hS90 : Sep NoB w w87 [(blk b9 29 [(Value.int .i64 1)]), (blk b4 33 [vr]), (marksR []), (sl vr 2 R.length (pairs R))] := hS88; clear hS88 hS34
   refine wl_nil ?_
   refine then_n ?_
   refine c_ret ?_
   refine then_ret ?_
   have hS91 : Sep NoB w w87 [(marksR []), (blk b9 29 [(Value.int .i64 1)]), (blk b4 33 [vr]), (sl vr 2 R.length (pairs R))] := hS90.keep [2, 0, 1, 3] (by decide) _ rfl rfl; clear hS90
   refine fin_runM hA89 (.inl rfl) hS91 ?_
   intro w92 hS93; clear hS91
   refine ⟨_, (run_results1 hA89 rfl (.cell1 rfl ty_29 (hS93.bk 0 rfl) rfl)), ?_⟩
   exact ⟨ret_int (by unfold checkF allRateB; first | rw [if_pos ⟨by omega, by assumption⟩, if_pos (by omega)] | rw [if_pos ⟨by omega, by assumption⟩, if_neg (by omega)] | rw [if_neg (fun h => by first | omega | exact absurd (h.2.symm.trans (by assumption : (List.range R.length).all (fun i => rateB (R.getD i (0, 0))) = false)) (by decide))]), hS93.ext⟩
 ·skip
  rw [hb24] at hA23
  have hq94 := hb24; simp only [Bool.and_eq_true, Bool.and_eq_false_iff, decide_eq_true_eq, decide_eq_false_iff_not] at hq94
  refine skp hA23 rfl rfl rfl rfl rfl (by decide) fun a95 hA96 => ?_; clear hA23 a22
  refine skp hA96 rfl rfl rfl rfl rfl (by decide) fun a97 hA98 => ?_; clear hA96 a95
  refine skp hA98 rfl rfl rfl rfl rfl (by decide) fun a99 hA100 => ?_; clear hA98 a97
  refine skp hA100 rfl rfl rfl rfl rfl (by decide) fun a101 hA102 => ?_; clear hA100 a99
  refine st hA102 (op_pick_t rfl (hA102.ev rfl) (evc _ _)) rfl rfl (by decide) fun a103 hA104 => ?_; clear hA102 a101
  refine wl_nil ?_
  refine then_n ?_
  refine c_true hA104 rfl ?_
  refine c_seq ?_
  have hA105 := hA104.as [(2, (bptr b9 0))] rfl; clear hA104
  refine c_region ?_
  refine sts hA105 (op_store hS10 rfl ty_29 (hA105.ev rfl) (evc _ _) (i := 0) rfl (vs := [(Value.int .i64 1)]) rfl rfl rfl (Nat.le_of_ble_eq_true rfl)) rfl rfl ?_
  intro _ w106 hS107 hA108; clear hA105
  have hS109 : Sep NoB w w106 [(blk b9 29 [(Value.int .i64 1)]), (blk b4 33 [vr]), (marksR []), (sl vr 2 R.length (pairs R))] := hS107; clear hS107 hS10
  refine wl_nil ?_
  refine then_n ?_
  refine c_ret ?_
  refine then_ret ?_
  have hS110 : Sep NoB w w106 [(marksR []), (blk b9 29 [(Value.int .i64 1)]), (blk b4 33 [vr]), (sl vr 2 R.length (pairs R))] := hS109.keep [2, 0, 1, 3] (by decide) _ rfl rfl; clear hS109
  refine fin_runM hA108 (.inl rfl) hS110 ?_
  intro w111 hS112; clear hS110
  refine ⟨_, (run_results1 hA108 rfl (.cell1 rfl ty_29 (hS112.bk 0 rfl) rfl)), ?_⟩
  exact ⟨ret_int (by unfold checkF allRateB; first | rw [if_pos ⟨by omega, by assumption⟩, if_pos (by omega)] | rw [if_pos ⟨by omega, by assumption⟩, if_neg (by omega)] | rw [if_neg (fun h => by first | omega | exact absurd (h.2.symm.trans (by assumption : (List.range R.length).all (fun i => rateB (R.getD i (0, 0))) = false)) (by decide))]), hS112.ext⟩
end Go.Proofs.Ytkkglkdnnfegkaa
