/-
  Rounds as data; how a round lies in memory; what the program's functions compute of it.
  Lists of laboratories, plain: those that begin so and go on with so many more.
  A round as one thing in memory; the round of the document's examples.
  The mathematics of rounds: what the program computes, told by truths.
  Plain: what the statements' own functions and the reference compute.
  The reference agrees with what the program computes.
  Rounds that are made from truths, and lists of the fewest: plain.
  Rounds that are moved: plain.
-/
import Derived.Test.YtfhmigoddaaljaaEng
set_option linter.unusedSimpArgs false
set_option linter.unusedVariables false
namespace Go.Proofs.Ytfhmigoddaaljaa
open Go.RowKit Go.Eng

structure RD where
  lots : List (Int × Int)
  samples : List Int
  spread : Int
  tols : List Int
  rds : List (List Int)

def RdsAt (w : World) (lv : List Value) (rds : List (List Int)) : Prop :=
  ∀ i, i < rds.length → SlAt w (lv.getD i nilS) 1 (rds.getD i []).length (ints (rds.getD i []))

/-- The readings of all laboratories. -/
def rdsR (lv : List Value) (rds : List (List Int)) : Res where
  S := fun b => ∃ i, i < rds.length ∧ slFoot (lv.getD i nilS) (ints (rds.getD i [])) b
  p := fun w => RdsAt w lv rds
  own := false
  stable := fun w w' h k i hi => (sl (lv.getD i nilS) 1 (rds.getD i []).length (ints (rds.getD i []))).stable w w' (h i hi) (fun b hb => k b ⟨i, hi, hb⟩)
  lt := fun w b h ⟨i, hi, hb⟩ => (sl (lv.getD i nilS) 1 (rds.getD i []).length (ints (rds.getD i []))).lt w b (h i hi) hb

structure RoundAt (w : World) (vl vs vb : Value) (lv : List Value) (d : RD) : Prop where
  lots : SlAt w vl 2 d.lots.length (pairs d.lots)
  samples : SlAt w vs 1 d.samples.length (ints d.samples)
  labs : SlAt w vb 2 d.tols.length (vpairs (d.tols.zip lv))
  rds : RdsAt w lv d.rds
  lvl : lv.length = d.tols.length
  rdl : d.rds.length = d.tols.length

theorem RoundAt.step {w w' : World} {vl vs vb : Value} {lv : List Value} {d : RD} (h : RoundAt w vl vs vb lv d) (k : Ext NoB w w') : RoundAt w' vl vs vb lv d :=
  ⟨h.lots.step k, h.samples.step k, h.labs.step k, res_step (r := rdsR lv d.rds) h.rds k, h.lvl, h.rdl⟩

theorem zip_getD {tols : List Int} {lv : List Value} {i : Nat} (h : i < tols.length) (hl : lv.length = tols.length) : (tols.zip lv).getD i (0, nilS) = (tols.getD i 0, lv.getD i nilS) := by
  have h2 : i < lv.length := by omega
  have : (tols.zip lv)[i]? = some (tols[i], lv[i]) := List.getElem?_zip_eq_some.2 ⟨List.getElem?_eq_getElem h, List.getElem?_eq_getElem h2⟩
  simp only [List.getD, this, List.getElem?_eq_getElem h, List.getElem?_eq_getElem h2, Option.getD_some]
theorem zip_len {tols : List Int} {lv : List Value} (hl : lv.length = tols.length) : (tols.zip lv).length = tols.length := by simp [hl]

theorem labs_at0 {tols : List Int} {lv : List Value} {i : Nat} (hl : lv.length = tols.length) (h : i < tols.length) : (vpairs (tols.zip lv))[i * 2]? = some (.int .i64 (tols.getD i 0)) := by
  have := vpairs_at0 (xs := tols.zip lv) (i := i) (by rw [zip_len hl]; exact h)
  rwa [zip_getD h hl] at this
theorem labs_at1 {tols : List Int} {lv : List Value} {i : Nat} (hl : lv.length = tols.length) (h : i < tols.length) : (vpairs (tols.zip lv))[i * 2 + 1]? = some (lv.getD i nilS) := by
  have := vpairs_at1 (xs := tols.zip lv) (i := i) (by rw [zip_len hl]; exact h)
  rwa [zip_getD h hl] at this
theorem labs_all {tols : List Int} {lv : List Value} {i : Nat} (hl : lv.length = tols.length) (h : i < tols.length) : ((vpairs (tols.zip lv)).drop (i * 2)).take 2 = [.int .i64 (tols.getD i 0), lv.getD i nilS] := by
  have := vpairs_all (xs := tols.zip lv) (i := i) (by rw [zip_len hl]; exact h)
  rwa [zip_getD h hl] at this

def lotB (p : Int × Int) : Bool := decide (0 ≤ p.1) && decide (p.1 ≤ p.2) && decide (p.2 ≤ 1000)
def tolB (n : Int) : Bool := decide (0 ≤ n) && decide (n ≤ 100)
def rdB (n : Int) : Bool := decide (-1 ≤ n) && decide (n ≤ 1000)
def labB (ns : Nat) (tol : Int) (rs : List Int) : Bool := tolB tol && decide ((rs.length : Int) = (ns : Int)) && (List.range rs.length).all (fun i => rdB (rs.getD i 0))
def smpB (nl : Nat) (n : Int) : Bool := decide (0 ≤ n) && decide (n ≤ (nl : Int) - 1)
def checkR (d : RD) : Int :=
  if d.lots.length > 4 ∨ d.samples.length > 8 ∨ d.tols.length > 6 then 3
  else if d.lots.length = 0 ∨ (List.range d.lots.length).all (fun i => lotB (d.lots.getD i (0, 0))) = false ∨ (List.range d.samples.length).all (fun i => smpB d.lots.length (d.samples.getD i 0)) = false ∨ tolB d.spread = false ∨ (List.range d.tols.length).all (fun i => labB d.samples.length (d.tols.getD i 0) (d.rds.getD i [])) = false then 1
  else 0

theorem checkR_3 {d : RD} (h : d.lots.length > 4 ∨ d.samples.length > 8 ∨ d.tols.length > 6) : checkR d = 3 := by rw [checkR, if_pos h]
theorem checkR_1 {d : RD} (h : ¬ (d.lots.length > 4 ∨ d.samples.length > 8 ∨ d.tols.length > 6)) (h2 : d.lots.length = 0 ∨ (List.range d.lots.length).all (fun i => lotB (d.lots.getD i (0, 0))) = false ∨ (List.range d.samples.length).all (fun i => smpB d.lots.length (d.samples.getD i 0)) = false ∨ tolB d.spread = false ∨ (List.range d.tols.length).all (fun i => labB d.samples.length (d.tols.getD i 0) (d.rds.getD i [])) = false) : checkR d = 1 := by rw [checkR, if_neg h, if_pos h2]
theorem checkR_0 {d : RD} (h : ¬ (d.lots.length > 4 ∨ d.samples.length > 8 ∨ d.tols.length > 6)) (h1 : d.lots.length ≠ 0) (h2 : (List.range d.lots.length).all (fun i => lotB (d.lots.getD i (0, 0))) = true) (h3 : (List.range d.samples.length).all (fun i => smpB d.lots.length (d.samples.getD i 0)) = true) (h4 : tolB d.spread = true) (h5 : (List.range d.tols.length).all (fun i => labB d.samples.length (d.tols.getD i 0) (d.rds.getD i [])) = true) : checkR d = 0 := by
  rw [checkR, if_neg h, if_neg]
  rintro (h | h | h | h | h)
  · exact h1 h
  · rw [h2] at h; cases h
  · rw [h3] at h; cases h
  · rw [h4] at h; cases h
  · rw [h5] at h; cases h
theorem ret_int {k : IntKind} {a b : Int} (h : a = b) : Value.int k a = Value.int k b := by rw [h]

/-! ### What is computed -/
def cutP (r o : Int × Int) : Int × Int := (max r.1 o.1, min r.2 o.2)
def widerP (r : Int × Int) (n : Int) : Int × Int := (r.1 - n, r.2 + n)
/-- The reading of one laboratory, of sample i, as a range of its value; none: there is none, or it is off. -/
def rdOne (d : RD) (i : Nat) (off : List Bool) (lab sh : Int) (q : Nat) : Option (Int × Int) :=
  if off.getD q false = true then none
  else if (d.rds.getD q []).getD i 0 = -1 then none
  else if (q : Int) = lab then some ((d.rds.getD q []).getD i 0 - sh - d.tols.getD q 0, (d.rds.getD q []).getD i 0 - sh + d.tols.getD q 0)
  else some ((d.rds.getD q []).getD i 0 - d.tols.getD q 0, (d.rds.getD q []).getD i 0 + d.tols.getD q 0)
def rdUpto (d : RD) (i : Nat) (off : List Bool) (lab sh : Int) (q : Nat) : List (Int × Int) := (List.range q).filterMap (rdOne d i off lab sh)
theorem rdUpto_succ (d : RD) (i : Nat) (off : List Bool) (lab sh : Int) (q : Nat) : rdUpto d i off lab sh (q + 1) = rdUpto d i off lab sh q ++ (rdOne d i off lab sh q).toList := by
  simp only [rdUpto, List.range_succ, List.filterMap_append, List.filterMap_cons, List.filterMap_nil]
  cases rdOne d i off lab sh q <;> simp
theorem rdUpto_pre (d : RD) (i : Nat) (off : List Bool) (lab sh : Int) (q n : Nat) (h : q ≤ n) : ∃ t, rdUpto d i off lab sh n = rdUpto d i off lab sh q ++ t := by
  induction n with
  | zero => exact ⟨[], by rw [show q = 0 by omega]; simp⟩
  | succ n ih =>
    rcases Nat.lt_or_ge q (n + 1) with h1 | h1
    · obtain ⟨t, ht⟩ := ih (by omega)
      exact ⟨t ++ (rdOne d i off lab sh n).toList, by rw [rdUpto_succ, ht, List.append_assoc]⟩
    · exact ⟨[], by rw [show q = n + 1 by omega]; simp⟩
theorem rd_at {d : RD} {i : Nat} {off : List Bool} {lab sh : Int} {q n : Nat} {p : Int × Int} (h : q < n) (hp : rdOne d i off lab sh q = some p) :
    (rdUpto d i off lab sh q).length < (rdUpto d i off lab sh n).length ∧ (rdUpto d i off lab sh n).getD (rdUpto d i off lab sh q).length (0, 0) = p := by
  obtain ⟨t, ht⟩ := rdUpto_pre d i off lab sh (q + 1) n h
  rw [rdUpto_succ, hp] at ht
  rw [ht]
  simp [List.getD]
def bigR : Int := 1073741824
def spanAt (d : RD) (i : Nat) (off : List Bool) (lab sh : Int) : Int × Int := (rdUpto d i off lab sh d.tols.length).foldl cutP (-bigR, bigR)
def lotOf (d : RD) (i : Nat) : Nat := (d.samples.getD i 0).toNat
/-- After k samples: the spans so far, and the lots; none: some span is empty. -/
def spLoop (d : RD) (off : List Bool) (lab sh : Int) : Nat → Option (List (Int × Int) × List (Int × Int))
  | 0 => some ([], d.lots)
  | k + 1 => match spLoop d off lab sh k with
    | none => none
    | some (out, lots) => if (spanAt d k off lab sh).2 < (spanAt d k off lab sh).1 then none
      else some (out ++ [spanAt d k off lab sh], lots.set (lotOf d k) (cutP (lots.getD (lotOf d k) (0, 0)) (widerP (spanAt d k off lab sh) d.spread)))
def okLots (lots : List (Int × Int)) : Bool := lots.all fun r => !decide (r.2 < r.1)
def lastCut (d : RD) (lots : List (Int × Int)) (out : List (Int × Int)) (i : Nat) : Int × Int := cutP (out.getD i (0, 0)) (widerP (lots.getD (lotOf d i) (0, 0)) d.spread)
def spansF (d : RD) (off : List Bool) (lab sh : Int) : List (Int × Int) × Bool :=
  match spLoop d off lab sh d.samples.length with
  | none => ([], false)
  | some (out, lots) => ((List.range d.samples.length).map (lastCut d lots out), okLots lots)
def explB (d : RD) (off : List Bool) : Bool := (spansF d off (-1) 0).2
/-- The map of what is known. -/
def KR (d : RD) (k v : Value) : Prop := ∃ bs : List Bool, bs.length = 6 ∧ k = .agg (bools bs).toArray ∧ v = .bool (explB d bs)

/-- A round that is valid, as bounds. -/
structure Valid (d : RD) : Prop where
  nl : 0 < d.lots.length ∧ d.lots.length ≤ 4
  ns : d.samples.length ≤ 8
  nb : d.tols.length ≤ 6
  lots : ∀ i, i < d.lots.length → 0 ≤ (d.lots.getD i (0, 0)).1 ∧ (d.lots.getD i (0, 0)).1 ≤ (d.lots.getD i (0, 0)).2 ∧ (d.lots.getD i (0, 0)).2 ≤ 1000
  samples : ∀ i, i < d.samples.length → 0 ≤ d.samples.getD i 0 ∧ d.samples.getD i 0 ≤ (d.lots.length : Int) - 1
  spread : 0 ≤ d.spread ∧ d.spread ≤ 100
  tols : ∀ i, i < d.tols.length → 0 ≤ d.tols.getD i 0 ∧ d.tols.getD i 0 ≤ 100
  rdl : ∀ i, i < d.tols.length → (d.rds.getD i []).length = d.samples.length
  rds : ∀ i, i < d.tols.length → ∀ j, j < d.samples.length → -1 ≤ (d.rds.getD i []).getD j 0 ∧ (d.rds.getD i []).getD j 0 ≤ 1000

theorem valid_of {d : RD} (h : checkR d = 0) : Valid d := by
  unfold checkR at h
  split at h
  · cases h
  · rename_i h1
    split at h
    · cases h
    · rename_i h2
      simp only [not_or, Bool.not_eq_false] at h2
      obtain ⟨h3, h4, h5, h6, h7⟩ := h2
      rw [List.all_eq_true] at h4 h5 h7
      have lot : ∀ i, i < d.lots.length → lotB (d.lots.getD i (0, 0)) = true := fun i hi => h4 i (List.mem_range.2 hi)
      have smp : ∀ i, i < d.samples.length → smpB d.lots.length (d.samples.getD i 0) = true := fun i hi => h5 i (List.mem_range.2 hi)
      have lab : ∀ i, i < d.tols.length → labB d.samples.length (d.tols.getD i 0) (d.rds.getD i []) = true := fun i hi => h7 i (List.mem_range.2 hi)
      simp only [lotB, smpB, labB, tolB, rdB, Bool.and_eq_true, decide_eq_true_eq, List.all_eq_true, List.mem_range] at lot smp lab h6
      exact ⟨by omega, by omega, by omega, fun i hi => ⟨(lot i hi).1.1, (lot i hi).1.2, (lot i hi).2⟩, fun i hi => smp i hi, h6, fun i hi => (lab i hi).1.1, fun i hi => by have := (lab i hi).1.2; omega, fun i hi j hj => (lab i hi).2 j (by have := (lab i hi).1.2; omega)⟩

/-- What an iterator over readings reads. -/
structure RData (b4 b5 b6 b7 bj : Nat) (i : Nat) (off : List Bool) (lab sh : Int) (mp vl vs vb : Value) (lv : List Value) (d : RD) (W : World) : Prop where
  c4 : (blk b4 83 [bptr bj 0]).p W
  c5 : (blk b5 3 [.int .i64 (i : Int)]).p W
  c6 : (blk b6 85 (bools off)).p W
  c7 : (blk b7 94 [.int .i64 lab, .int .i64 sh]).p W
  cj : (blk bj 107 [vl, vs, .int .i64 d.spread, vb, mp]).p W
  rd : RoundAt W vl vs vb lv d

/-! ### The laboratories that are off -/
def offUpto (l : List Int) (k : Nat) : List Bool := (l.take k).foldl (fun bs n => bs.set n.toNat true) (List.replicate 6 false)
theorem offUpto_succ (l : List Int) (k : Nat) (h : k < l.length) : offUpto l (k + 1) = (offUpto l k).set (l.getD k 0).toNat true := by
  simp only [offUpto]; rw [take_snoc l k h, List.foldl_append]; rfl
theorem offUpto_length (l : List Int) (k : Nat) : (offUpto l k).length = 6 := by
  unfold offUpto
  have : ∀ (xs : List Int) (bs : List Bool), (xs.foldl (fun bs n => bs.set n.toNat true) bs).length = bs.length := by
    intro xs
    induction xs with
    | nil => intro bs; rfl
    | cons x xs ih => intro bs; rw [List.foldl_cons, ih]; simp
  rw [this]; rfl
def riseAt (nb : Nat) (l : List Int) (i : Nat) : Bool := (decide (0 ≤ l.getD i 0) && decide (l.getD i 0 ≤ (nb : Int) - 1)) && (decide (i = 0) || decide (l.getD (i - 1) 0 < l.getD i 0))
def riseB (nb : Nat) (l : List Int) : Bool := (List.range l.length).all (riseAt nb l)

theorem rise_yes {nb : Nat} {l : List Int} {k : Nat} (h1 : (decide (0 ≤ l.getD k 0) && decide (l.getD k 0 ≤ (nb : Int) - 1)) = true) (h2 : k = 0 ∨ l.getD (k - 1) 0 < l.getD k 0) : riseAt nb l k = true := by
  unfold riseAt; rw [h1]; simpa using h2
theorem rise_no1 {nb : Nat} {l : List Int} {k : Nat} (h1 : (decide (0 ≤ l.getD k 0) && decide (l.getD k 0 ≤ (nb : Int) - 1)) = false) : riseAt nb l k = false := by
  unfold riseAt; rw [h1]; rfl
theorem rise_no2 {nb : Nat} {l : List Int} {k : Nat} (h0 : k ≠ 0) (h : ¬ l.getD (k - 1) 0 < l.getD k 0) : riseAt nb l k = false := by
  unfold riseAt; rw [decide_eq_false h0, decide_eq_false h]; simp
theorem riseB_no {nb : Nat} {l : List Int} {k : Nat} (hk : k < l.length) (h : riseAt nb l k = false) : riseB nb l = false := by
  unfold riseB; rw [List.all_eq_false]; exact ⟨k, List.mem_range.2 hk, by simp [h]⟩
theorem riseB_yes {nb : Nat} {l : List Int} (h : ∀ i, i < l.length → riseAt nb l i = true) : riseB nb l = true := by
  unfold riseB; rw [List.all_eq_true]; exact fun i hi => h i (List.mem_range.1 hi)
theorem toNat_pred (k : Nat) : ((k : Int) - 1).toNat = k - 1 := by omega
def zero6 : Value := .agg #[.bool false, .bool false, .bool false, .bool false, .bool false, .bool false]

section
variable {d : RD} {i : Nat} {off : List Bool} {lab sh : Int} {q : Nat}
theorem rd_no1 (h : off.getD q false = true) : rdOne d i off lab sh q = none := by rw [rdOne, if_pos h]
theorem rd_no2 (h : off.getD q false = false) (h2 : (d.rds.getD q []).getD i 0 = -1) : rdOne d i off lab sh q = none := by rw [rdOne, if_neg (by rw [h]; simp), if_pos h2]
theorem rd_yes1 (h : off.getD q false = false) (h2 : ¬ (d.rds.getD q []).getD i 0 = -1) (h3 : (q : Int) = lab) : rdOne d i off lab sh q = some ((d.rds.getD q []).getD i 0 - sh - d.tols.getD q 0, (d.rds.getD q []).getD i 0 - sh + d.tols.getD q 0) := by rw [rdOne, if_neg (by rw [h]; simp), if_neg h2, if_pos h3]
theorem rd_yes2 (h : off.getD q false = false) (h2 : ¬ (d.rds.getD q []).getD i 0 = -1) (h3 : ¬ (q : Int) = lab) : rdOne d i off lab sh q = some ((d.rds.getD q []).getD i 0 - d.tols.getD q 0, (d.rds.getD q []).getD i 0 + d.tols.getD q 0) := by rw [rdOne, if_neg (by rw [h]; simp), if_neg h2, if_neg h3]
theorem rd_same (h : rdOne d i off lab sh q = none) : rdUpto d i off lab sh (q + 1) = rdUpto d i off lab sh q := by rw [rdUpto_succ, h]; simp
theorem rd_more {p : Int × Int} (h : rdOne d i off lab sh q = some p) : (rdUpto d i off lab sh (q + 1)).length = (rdUpto d i off lab sh q).length + 1 := by rw [rdUpto_succ, h]; simp
end
/-! ### Spans -/
def foldUpto (d : RD) (i : Nat) (off : List Bool) (lab sh : Int) (q : Nat) : Int × Int := ((rdUpto d i off lab sh d.tols.length).take q).foldl cutP (-1073741824, 1073741824)
section
variable {d : RD} {i : Nat} {off : List Bool} {lab sh : Int}
theorem fold_all : foldUpto d i off lab sh (rdUpto d i off lab sh d.tols.length).length = spanAt d i off lab sh := by
  unfold foldUpto spanAt; rw [List.take_length]; rfl
theorem take_snocP (l : List (Int × Int)) (q : Nat) (h : q < l.length) : l.take (q + 1) = l.take q ++ [l.getD q (0, 0)] := by
  rw [List.take_succ_eq_append_getElem h]; simp [List.getD, h]
theorem fold_succ {q : Nat} (h : q < (rdUpto d i off lab sh d.tols.length).length) : foldUpto d i off lab sh (q + 1) = cutP (foldUpto d i off lab sh q) ((rdUpto d i off lab sh d.tols.length).getD q (0, 0)) := by
  unfold foldUpto; rw [take_snocP _ _ h, List.foldl_append]; rfl

def Bd (p : Int × Int) : Prop := -2000000000 ≤ p.1 ∧ p.1 ≤ 2000000000 ∧ -2000000000 ≤ p.2 ∧ p.2 ≤ 2000000000
theorem rdOne_bd (hV : Valid d) (hi : i < d.samples.length) (hsh : -2000 ≤ sh ∧ sh ≤ 2000) {q : Nat} (hq : q < d.tols.length) {p : Int × Int} (h : rdOne d i off lab sh q = some p) : -10000 ≤ p.1 ∧ p.1 ≤ 10000 ∧ -10000 ≤ p.2 ∧ p.2 ≤ 10000 := by
  have h1 := hV.tols q hq
  have h2 := hV.rds q hq i hi
  unfold rdOne at h
  split at h
  · cases h
  · split at h
    · cases h
    · split at h <;> · cases h; dsimp only; omega
theorem foldCut_bd : ∀ (l : List (Int × Int)) (p : Int × Int), (∀ r ∈ l, -10000 ≤ r.1 ∧ r.1 ≤ 10000 ∧ -10000 ≤ r.2 ∧ r.2 ≤ 10000) → (-1073741824 ≤ p.1 ∧ p.1 ≤ 1073741824 ∧ -1073741824 ≤ p.2 ∧ p.2 ≤ 1073741824) → (-1073741824 ≤ (l.foldl cutP p).1 ∧ (l.foldl cutP p).1 ≤ 1073741824 ∧ -1073741824 ≤ (l.foldl cutP p).2 ∧ (l.foldl cutP p).2 ≤ 1073741824)
  | [], p, _, h => h
  | r :: l, p, h1, h => by
    rw [List.foldl_cons]
    refine foldCut_bd l _ (fun s hs => h1 s (List.mem_cons_of_mem _ hs)) ?_
    have := h1 r (List.mem_cons_self ..)
    simp only [cutP]; omega
theorem spanAt_bd (hV : Valid d) (hi : i < d.samples.length) (hsh : -2000 ≤ sh ∧ sh ≤ 2000) : -1073741824 ≤ (spanAt d i off lab sh).1 ∧ (spanAt d i off lab sh).1 ≤ 1073741824 ∧ -1073741824 ≤ (spanAt d i off lab sh).2 ∧ (spanAt d i off lab sh).2 ≤ 1073741824 := by
  refine foldCut_bd _ _ (fun r hr => ?_) (by decide)
  obtain ⟨q, hq, h⟩ := List.mem_filterMap.1 hr
  exact rdOne_bd hV hi hsh (List.mem_range.1 hq) h
theorem getD_setP (l : List (Int × Int)) (i j : Nat) (p : Int × Int) : (l.set i p).getD j (0, 0) = if i = j ∧ j < l.length then p else l.getD j (0, 0) := by
  simp only [List.getD, List.getElem?_set]
  by_cases e : i = j
  · subst e
    by_cases h : i < l.length
    · simp [h]
    · simp [h]
  · simp [e]
theorem getD_appP (l : List (Int × Int)) (p : Int × Int) (j : Nat) : (l ++ [p]).getD j (0, 0) = if j = l.length then p else l.getD j (0, 0) := by
  simp only [List.getD]
  by_cases e : j = l.length
  · subst e; simp
  · rw [if_neg e]
    rcases Nat.lt_or_ge j l.length with h | h
    · rw [List.getElem?_append_left h]
    · rw [List.getElem?_append_right h, List.getElem?_eq_none (by simp; omega), List.getElem?_eq_none h]
theorem spLoop_ok (hV : Valid d) (hsh : -2000 ≤ sh ∧ sh ≤ 2000) : ∀ {k : Nat} {out lots : List (Int × Int)}, k ≤ d.samples.length → spLoop d off lab sh k = some (out, lots) → out.length = k ∧ lots.length = d.lots.length ∧ (∀ j, Bd (out.getD j (0, 0))) ∧ (∀ j, Bd (lots.getD j (0, 0)))
  | 0, out, lots, _, h => by
    cases h
    refine ⟨rfl, rfl, fun j => by simp [Bd], fun j => ?_⟩
    rcases Nat.lt_or_ge j d.lots.length with h | h
    · have := hV.lots j h; unfold Bd; omega
    · rw [List.getD, List.getElem?_eq_none h]; simp [Bd]
  | k + 1, out, lots, hk, h => by
    simp only [spLoop] at h
    cases hp : spLoop d off lab sh k with
    | none => rw [hp] at h; cases h
    | some p =>
      obtain ⟨o, l⟩ := p
      rw [hp] at h
      obtain ⟨h1, h2, h3, h4⟩ := spLoop_ok hV hsh (by omega) hp
      dsimp only at h
      split at h
      · cases h
      · cases h
        have hb := spanAt_bd (off := off) (lab := lab) hV (show k < d.samples.length by omega) hsh
        have hsp := hV.spread
        refine ⟨by simp [h1], by simp [h2], fun j => ?_, fun j => ?_⟩
        · rw [getD_appP]; split
          · unfold Bd; omega
          · exact h3 j
        · rw [getD_setP]; split
          · have := h4 (lotOf d k); unfold Bd at this ⊢; simp only [cutP, widerP]; omega
          · exact h4 j
theorem spLoop_step {k : Nat} {out lots : List (Int × Int)} (h : spLoop d off lab sh k = some (out, lots)) (he : ¬ (spanAt d k off lab sh).2 < (spanAt d k off lab sh).1) : spLoop d off lab sh (k + 1) = some (out ++ [spanAt d k off lab sh], lots.set (lotOf d k) (cutP (lots.getD (lotOf d k) (0, 0)) (widerP (spanAt d k off lab sh) d.spread))) := by
  simp only [spLoop, h, if_neg he]
theorem spLoop_stop {k : Nat} {out lots : List (Int × Int)} (h : spLoop d off lab sh k = some (out, lots)) (he : (spanAt d k off lab sh).2 < (spanAt d k off lab sh).1) : ∀ n, k < n → spLoop d off lab sh n = none
  | 0, hn => by omega
  | n + 1, hn => by
    rcases Nat.lt_or_ge k n with h1 | h1
    · simp only [spLoop, spLoop_stop h he n h1]
    · have : n = k := by omega
      subst this
      simp only [spLoop, h, if_pos he]
theorem spansF_none {k : Nat} {out lots : List (Int × Int)} (hk : k < d.samples.length) (h : spLoop d off lab sh k = some (out, lots)) (he : (spanAt d k off lab sh).2 < (spanAt d k off lab sh).1) : spansF d off lab sh = ([], false) := by
  simp only [spansF, spLoop_stop h he _ hk]
theorem spansF_some {k : Nat} {out lots : List (Int × Int)} (hk : k = d.samples.length) (h : spLoop d off lab sh k = some (out, lots)) : spansF d off lab sh = ((List.range d.samples.length).map (lastCut d lots out), okLots lots) := by
  subst hk; simp only [spansF, h]
theorem okLots_yes {lots : List (Int × Int)} {k : Nat} (hk : lots.length ≤ k) (h : ∀ i, i < k → ¬ (lots.getD i (0, 0)).2 < (lots.getD i (0, 0)).1) : okLots lots = true := by
  unfold okLots
  rw [List.all_eq_true]
  intro r hr
  obtain ⟨i, hi, rfl⟩ := List.getElem_of_mem hr
  have := h i (by omega)
  simpa [List.getD, hi] using this
theorem okLots_no {lots : List (Int × Int)} {k : Nat} (hk : k < lots.length) (h : (lots.getD k (0, 0)).2 < (lots.getD k (0, 0)).1) : okLots lots = false := by
  unfold okLots
  rw [List.all_eq_false]
  exact ⟨lots[k], List.getElem_mem hk, by simpa [List.getD, hk] using h⟩
def lastUpto (d : RD) (lots out : List (Int × Int)) (k : Nat) : List (Int × Int) := (List.range k).map (lastCut d lots out) ++ out.drop k
theorem lastUpto_length {lots out : List (Int × Int)} {k : Nat} (h : k ≤ out.length) : (lastUpto d lots out k).length = out.length := by simp [lastUpto]; omega
theorem lastUpto_at {lots out : List (Int × Int)} {k : Nat} (h : k < out.length) : (lastUpto d lots out k).getD k (0, 0) = out.getD k (0, 0) := by
  simp only [lastUpto, List.getD]; rw [List.getElem?_append_right (by simp)]; simp
theorem lastUpto_succ {lots out : List (Int × Int)} {k : Nat} (h : k < out.length) : (lastUpto d lots out k).set k (lastCut d lots out k) = lastUpto d lots out (k + 1) := by
  have e : out.drop k = out[k] :: out.drop (k + 1) := List.drop_eq_getElem_cons h
  unfold lastUpto
  rw [List.set_append_right _ _ (by simp), List.range_succ, List.map_append, List.append_assoc, e]
  simp only [List.length_map, List.length_range, Nat.sub_self, List.set_cons_zero, List.map_cons, List.map_nil, List.cons_append, List.nil_append]
theorem lastUpto_zero {lots out : List (Int × Int)} : lastUpto d lots out 0 = out := by simp [lastUpto]
theorem lastUpto_all {lots out : List (Int × Int)} {k : Nat} (h : k = out.length) : lastUpto d lots out k = (List.range k).map (lastCut d lots out) := by subst h; simp [lastUpto]
end
theorem KR_keys (d : RD) : ∀ k' v, KR d k' v → ∃ ys : List Bool, ys.length = 6 ∧ k' = .agg (bools ys).toArray := fun _ _ ⟨bs, h1, h2, _⟩ => ⟨bs, h1, h2⟩
theorem KR_val {d : RD} {off : List Bool} {u : Value} (h : KR d (.agg (bools off).toArray) u) : u = .bool (explB d off) := by
  obtain ⟨bs, _, h2, h3⟩ := h
  rw [h3, bools_inj h2]
def explainsF (d : RD) (l : List Int) : Bool × Int :=
  if checkR d = 0 then (if riseB d.tols.length l = true then (explB d (offUpto l l.length), 0) else (false, 2)) else (false, checkR d)
def spansR (d : RD) (l : List Int) : List (Int × Int) × Int :=
  if checkR d = 0 then (if riseB d.tols.length l = true then (if (spansF d (offUpto l l.length) (-1) 0).2 = true then ((spansF d (offUpto l l.length) (-1) 0).1, 0) else ([], 9)) else ([], 2)) else ([], checkR d)
end Go.Proofs.Ytfhmigoddaaljaa

namespace Go.Proofs.Ytfhmigoddaaljaa
open Go.RowKit Go.Eng

def fromL (d : RD) : Nat → List Int → List Bool → Nat → List (List Int)
  | 0, l, off, _ => if explB d off = true then [l] else []
  | m + 1, l, off, next => (List.range' next (d.tols.length - next)).flatMap fun (k : Nat) => fromL d m (l ++ [(k : Int)]) (off.set k true) (k + 1)
def fromUpto (d : RD) (m : Nat) (l : List Int) (off : List Bool) (next k : Nat) : List (List Int) := (List.range' next (k - next)).flatMap fun (k : Nat) => fromL d m (l ++ [(k : Int)]) (off.set k true) (k + 1)
theorem fromUpto_self (d : RD) (m : Nat) (l : List Int) (off : List Bool) (next : Nat) : fromUpto d m l off next next = [] := by simp [fromUpto]
theorem fromUpto_succ (d : RD) (m : Nat) (l : List Int) (off : List Bool) (next k : Nat) (h : next ≤ k) : fromUpto d m l off next (k + 1) = fromUpto d m l off next k ++ fromL d m (l ++ [(k : Int)]) (off.set k true) (k + 1) := by
  unfold fromUpto
  rw [show k + 1 - next = (k - next) + 1 by omega, List.range'_1_concat, List.flatMap_append, show next + (k - next) = k by omega]
  simp
theorem fromUpto_all (d : RD) (m : Nat) (l : List Int) (off : List Bool) (next k : Nat) (h : next ≤ k) (h1 : k = next ∨ k ≤ d.tols.length) (h2 : d.tols.length ≤ k) : fromUpto d m l off next k = fromL d (m + 1) l off next := by
  rw [fromL]; unfold fromUpto
  rw [show k - next = d.tols.length - next by omega]
theorem fromUpto_pre (d : RD) (m : Nat) (l : List Int) (off : List Bool) (next k : Nat) (h : next ≤ k) (h1 : k < d.tols.length) : (fromUpto d m l off next k).length + (fromL d m (l ++ [(k : Int)]) (off.set k true) (k + 1)).length ≤ (fromL d (m + 1) l off next).length := by
  rw [← List.length_append, ← fromUpto_succ d m l off next k h]
  have : ∀ n, (fromUpto d m l off next (k + 1)).length ≤ (fromUpto d m l off next (k + 1 + n)).length := by
    intro n
    induction n with
    | zero => exact Nat.le_refl _
    | succ n ih => rw [show k + 1 + (n + 1) = (k + 1 + n) + 1 by omega, fromUpto_succ d m l off next (k + 1 + n) (by omega), List.length_append]; omega
  have h3 := this (d.tols.length - (k + 1))
  rw [show k + 1 + (d.tols.length - (k + 1)) = d.tols.length by omega] at h3
  rw [← fromUpto_all d m l off next d.tols.length (by omega) (by omega) (by omega)]
  exact h3
theorem fromL_len (d : RD) : ∀ (m : Nat) (l : List Int) (off : List Bool) (next : Nat), (fromL d m l off next).length ≤ d.tols.length ^ m
  | 0, l, off, next => by unfold fromL; split <;> simp
  | m + 1, l, off, next => by
    unfold fromL
    rw [List.length_flatMap]
    have : ∀ (ks : List Nat), ((ks.map fun (k : Nat) => (fromL d m (l ++ [(k : Int)]) (off.set k true) (k + 1)).length).sum) ≤ ks.length * d.tols.length ^ m := by
      intro ks
      induction ks with
      | nil => simp
      | cons k ks ih =>
        have := fromL_len d m (l ++ [(k : Int)]) (off.set k true) (k + 1)
        simp only [List.map_cons, List.sum_cons, List.length_cons]
        rw [Nat.add_mul]; omega
    refine Nat.le_trans (this _) ?_
    rw [List.length_range', Nat.pow_succ, Nat.mul_comm]
    exact Nat.mul_le_mul_left _ (by omega)
theorem fromL_small (d : RD) (hb : d.tols.length ≤ 6) (m : Nat) (hm : m ≤ 6) (l : List Int) (off : List Bool) (next : Nat) : (fromL d m l off next).length ≤ 46656 := by
  refine Nat.le_trans (fromL_len d m l off next) (Nat.le_trans (Nat.pow_le_pow_left hb m) ?_)
  exact Nat.le_trans (Nat.pow_le_pow_right (by decide) hm) (by decide)
def off0 : List Bool := List.replicate 6 false
/-- All lists of the fewest, found so far: after the sizes below 'many'. -/
def fewUpto (d : RD) : Nat → List (List Int)
  | 0 => []
  | k + 1 => if fewUpto d k = [] then fromL d k [] off0 0 else fewUpto d k
def fewestF (d : RD) : List (List Int) := fewUpto d (d.tols.length + 1)
theorem fewUpto_stay (d : RD) {k : Nat} (h : fewUpto d k ≠ []) : ∀ n, k ≤ n → fewUpto d n = fewUpto d k := by
  intro n hn
  induction n with
  | zero => rw [show k = 0 by omega]
  | succ n ih =>
    rcases Nat.lt_or_ge k (n + 1) with h1 | h1
    · have := ih (by omega)
      simp only [fewUpto]; rw [this, if_neg h]
    · rw [show k = n + 1 by omega]
theorem fewUpto_step (d : RD) {k : Nat} (h : fewUpto d k = []) : fewUpto d (k + 1) = fromL d k [] off0 0 := by simp only [fewUpto]; rw [if_pos h]
theorem fewest_is (d : RD) {k : Nat} (h : k = d.tols.length + 1 ∨ (k ≤ d.tols.length + 1 ∧ fewUpto d k ≠ [])) : fewUpto d k = fewestF d := by
  unfold fewestF
  rcases h with rfl | ⟨h1, h2⟩
  · rfl
  · rw [fewUpto_stay d h2 _ h1]
theorem fewUpto_len (d : RD) (hb : d.tols.length ≤ 6) : ∀ k, k ≤ 7 → (fewUpto d k).length ≤ 46656
  | 0, _ => by simp [fewUpto]
  | k + 1, h => by
    simp only [fewUpto]; split
    · exact fromL_small d hb k (by omega) _ _ _
    · exact fewUpto_len d hb k (by omega)

/-! ### Least, Convicted, Shifts -/
def leastR (d : RD) : List Int × Int := if checkR d = 0 then ((fewestF d).getD 0 [], 0) else ([], checkR d)
def hasB (l : List Int) (k : Int) : Bool := (List.range l.length).any fun i => decide (k = l.getD i 0)
def inAll (d : RD) (k : Int) : Bool := (List.range (fewestF d).length).all fun i => hasB ((fewestF d).getD i []) k
def convUpto (d : RD) (n : Nat) : List Int := (((fewestF d).getD 0 []).take n).filter (inAll d)
def convF (d : RD) : List Int := ((fewestF d).getD 0 []).filter (inAll d)
def convR (d : RD) : List Int × Int := if checkR d = 0 then (if (convF d).length = 0 then ([], 7) else (convF d, 0)) else ([], checkR d)
theorem convUpto_yes {d : RD} {n : Nat} (h : n < ((fewestF d).getD 0 []).length) (hb : inAll d (((fewestF d).getD 0 []).getD n 0) = true) : convUpto d (n + 1) = convUpto d n ++ [((fewestF d).getD 0 []).getD n 0] := by
  unfold convUpto; rw [take_snoc _ n h, List.filter_append, List.filter_cons, if_pos hb]; rfl
theorem convUpto_no {d : RD} {n : Nat} (h : n < ((fewestF d).getD 0 []).length) (hb : inAll d (((fewestF d).getD 0 []).getD n 0) = false) : convUpto d (n + 1) = convUpto d n := by
  unfold convUpto; rw [take_snoc _ n h, List.filter_append, List.filter_cons, if_neg (by rw [hb]; simp)]; simp
theorem convUpto_all {d : RD} {n : Nat} (h : ((fewestF d).getD 0 []).length ≤ n) : convUpto d n = convF d := by
  unfold convUpto convF; rw [List.take_of_length_le h]
theorem convUpto_len {d : RD} (n : Nat) : (convUpto d n).length ≤ n := Nat.le_trans (List.length_filter_le _ _) (List.length_take_le _ _)
def shOk (d : RD) (lab s : Int) : Bool := (spansF d off0 lab s).2
def shUpto (d : RD) (lab : Int) : Nat → Int × Int
  | 0 => (1073741824, -1073741824)
  | k + 1 => if shOk d lab ((k : Int) - 2000) = true then (min (shUpto d lab k).1 ((k : Int) - 2000), (k : Int) - 2000) else shUpto d lab k
def shiftsR (d : RD) (lab : Int) : (Int × Int) × Int :=
  if checkR d = 0 then
    if (decide (0 ≤ lab) && decide (lab ≤ (d.tols.length : Int) - 1)) = true then
      if explB d (off0.set lab.toNat true) = true then
        if (decide ((shUpto d lab 4001).1 = 1073741824) && decide ((shUpto d lab 4001).2 = -1073741824)) = true then ((0, 0), 7) else (shUpto d lab 4001, 0)
      else ((0, 0), 9)
    else ((0, 0), 2)
  else ((0, 0), checkR d)
theorem shUpto_yes {d : RD} {lab : Int} {k : Nat} (h : shOk d lab ((k : Int) - 2000) = true) : shUpto d lab (k + 1) = (min (shUpto d lab k).1 ((k : Int) - 2000), (k : Int) - 2000) := by rw [shUpto, if_pos h]
theorem shUpto_no {d : RD} {lab : Int} {k : Nat} (h : shOk d lab ((k : Int) - 2000) = false) : shUpto d lab (k + 1) = shUpto d lab k := by rw [shUpto, if_neg (by simp [h])]

/-! ### All laboratories together explain a valid round -/
theorem spLoop_off {d : RD} (hV : Valid d) {off : List Bool} {lab sh : Int} (ho : ∀ q, q < d.tols.length → off.getD q false = true) : ∀ k, k ≤ d.samples.length → ∃ out, spLoop d off lab sh k = some (out, d.lots)
  | 0, _ => ⟨[], rfl⟩
  | k + 1, hk => by
    obtain ⟨out, h⟩ := spLoop_off hV (lab := lab) (sh := sh) ho k (by omega)
    have hs : spanAt d k off lab sh = (-bigR, bigR) := by
      have : rdUpto d k off lab sh d.tols.length = [] := by
        unfold rdUpto
        rw [List.filterMap_eq_nil_iff]
        intro q hq
        rw [rdOne, if_pos (ho q (List.mem_range.1 hq))]
      unfold spanAt; rw [this]; rfl
    refine ⟨out ++ [(-bigR, bigR)], ?_⟩
    simp only [spLoop, h, hs]
    rw [if_neg (by decide)]
    have hsm := hV.samples k (by omega)
    have hl := hV.lots (lotOf d k) (by unfold lotOf; omega)
    have hsp := hV.spread
    have e : cutP (d.lots.getD (lotOf d k) (0, 0)) (widerP (-bigR, bigR) d.spread) = d.lots.getD (lotOf d k) (0, 0) := by
      simp only [cutP, widerP, bigR]
      apply Prod.ext <;> simp only [] <;> omega
    rw [e]
    have : d.lots.set (lotOf d k) (d.lots.getD (lotOf d k) (0, 0)) = d.lots := by
      apply List.ext_getElem?
      intro j
      rw [List.getElem?_set]
      split
      · rename_i hj; subst hj
        split
        · rename_i hj2; simp [List.getD, hj2]
        · rename_i hj2; rw [List.getElem?_eq_none (by omega)]
      · rfl
    rw [this]
theorem expl_all {d : RD} (hV : Valid d) {off : List Bool} (ho : ∀ q, q < d.tols.length → off.getD q false = true) : explB d off = true := by
  obtain ⟨out, h⟩ := spLoop_off hV (lab := -1) (sh := 0) ho d.samples.length (Nat.le_refl _)
  unfold explB spansF
  rw [h]
  show okLots d.lots = true
  exact okLots_yes (Nat.le_refl _) (fun i hi => by have := hV.lots i hi; omega)
theorem fromL_full {d : RD} (hV : Valid d) : ∀ (m : Nat) (l : List Int) (off : List Bool) (next : Nat), next + m = d.tols.length → off.length = 6 → (∀ q, q < next → off.getD q false = true) → fromL d m l off next ≠ []
  | 0, l, off, next, h, _, ho => by
    rw [fromL, if_pos (expl_all hV (fun q hq => ho q (by omega)))]; simp
  | m + 1, l, off, next, h, h6, ho => by
    rw [fromL, show d.tols.length - next = (d.tols.length - (next + 1)) + 1 by omega, List.range'_succ, List.flatMap_cons]
    have := fromL_full hV m (l ++ [(next : Int)]) (off.set next true) (next + 1) (by omega) (by simp [h6]) (fun q hq => by
      have hb := hV.nb
      rcases Nat.lt_or_ge q next with h1 | h1
      · have := ho q h1
        simp only [List.getD, List.getElem?_set] at this ⊢
        rw [if_neg (by omega)]; exact this
      · have : q = next := by omega
        subst this
        have hq6 : q < off.length := by omega
        simp only [List.getD, List.getElem?_set, if_true, if_pos hq6, Option.getD_some])
    intro he
    exact this (List.append_eq_nil_iff.1 he).1
theorem fewest_ne {d : RD} (hV : Valid d) : fewestF d ≠ [] := by
  unfold fewestF
  simp only [fewUpto]
  split
  · exact fromL_full hV _ _ _ _ (by omega) rfl (by omega)
  · assumption
theorem fewest_pos {d : RD} (hV : Valid d) : 0 < (fewestF d).length := List.length_pos_iff.2 (fewest_ne hV)
theorem fromL_each (d : RD) : ∀ (m : Nat) (l : List Int) (off : List Bool) (next : Nat) (x : List Int), x ∈ fromL d m l off next → x.length = l.length + m
  | 0, l, off, next, x, h => by
    rw [fromL] at h; split at h
    · simp at h; subst h; rfl
    · cases h
  | m + 1, l, off, next, x, h => by
    rw [fromL, List.mem_flatMap] at h
    obtain ⟨k, _, hk⟩ := h
    have := fromL_each d m _ _ _ x hk
    simp at this; omega
theorem fewUpto_each (d : RD) : ∀ (k : Nat) (x : List Int), x ∈ fewUpto d k → x.length + 1 ≤ k
  | 0, x, h => by cases h
  | k + 1, x, h => by
    simp only [fewUpto] at h
    split at h
    · have := fromL_each d _ _ _ _ x h; simp at this; omega
    · have := fewUpto_each d k x h; omega
theorem fewest_each {d : RD} (hV : Valid d) (i : Nat) : ((fewestF d).getD i []).length ≤ 6 := by
  have hb := hV.nb
  simp only [List.getD]
  cases h : (fewestF d)[i]? with
  | none => simp
  | some x => have := fewUpto_each d _ x (List.mem_of_getElem? h); simp only [Option.getD_some]; omega
end Go.Proofs.Ytfhmigoddaaljaa

namespace Go.Proofs.Ytfhmigoddaaljaa
open Go.RowKit Go.Eng

/-- A round, as it lies in memory. -/
def rndR (o : Bool) (vl vs vb : Value) (lv : List Value) (d : RD) : Res where
  S := fun b => slFoot vl (pairs d.lots) b ∨ slFoot vs (ints d.samples) b ∨ slFoot vb (vpairs (d.tols.zip lv)) b ∨ (rdsR lv d.rds).S b
  p := fun w => RoundAt w vl vs vb lv d
  own := o
  stable := fun w w' h k =>
    ⟨(sl vl 2 d.lots.length (pairs d.lots)).stable w w' h.lots (fun b hb => k b (.inl hb)), (sl vs 1 d.samples.length (ints d.samples)).stable w w' h.samples (fun b hb => k b (.inr (.inl hb))),
     (sl vb 2 d.tols.length (vpairs (d.tols.zip lv))).stable w w' h.labs (fun b hb => k b (.inr (.inr (.inl hb)))), (rdsR lv d.rds).stable w w' h.rds (fun b hb => k b (.inr (.inr (.inr hb)))), h.lvl, h.rdl⟩
  lt := fun w b h hb => by
    rcases hb with hb | hb | hb | hb
    · exact (sl vl 2 d.lots.length (pairs d.lots)).lt w b h.lots hb
    · exact (sl vs 1 d.samples.length (ints d.samples)).lt w b h.samples hb
    · exact (sl vb 2 d.tols.length (vpairs (d.tols.zip lv))).lt w b h.labs hb
    · exact (rdsR lv d.rds).lt w b h.rds hb

theorem rnd_at {o : Bool} {vl vs vb : Value} {lv : List Value} {d : RD} {w : World} (h : (rndR o vl vs vb lv d).p w) : RoundAt w vl vs vb lv d := h

section
variable {X : Nat → Prop} {w0 w : World} {L A : List Res}
theorem Sep.rnd (h : Sep X w0 w L) (i : Nat) {o : Bool} {vl vs vb : Value} {lv : List Value} {d : RD} (hi : L[i]? = some (rndR o vl vs vb lv d)) : RoundAt w vl vs vb lv d := h.ok i _ hi
theorem joinN {t : Res} (h : Sep X w0 w (A ++ L)) (ht : t.p w) (hS : ∀ b, t.S b → ∃ r ∈ A, r.S b) (hall : A.all (·.own) = true) : Sep X w0 w (t :: L) := by
  have hp := List.pairwise_append.1 h.pw
  have own : ∀ r ∈ A, r.own = true := fun r hr => List.all_eq_true.1 hall r hr
  refine Sep.of_pw h.ext (fun r hr => ?_) (fun r hr ho b hb => ?_) (List.pairwise_cons.2 ⟨fun s hs => ?_, hp.2.1⟩)
  · rcases List.mem_cons.1 hr with rfl | hr
    · exact ht
    · exact h.mem (List.mem_append_right _ hr)
  · rcases List.mem_cons.1 hr with rfl | hr
    · obtain ⟨r', hr', hb'⟩ := hS b hb
      exact h.mineM (List.mem_append_left _ hr') (own r' hr') b hb'
    · exact h.mineM (List.mem_append_right _ hr) ho b hb
  · refine ⟨fun _ b hb => ?_, fun ho b hb hb' => ?_⟩
    · obtain ⟨r', hr', hb'⟩ := hS b hb
      exact (hp.2.2 r' hr' s hs).1 (own r' hr') b hb'
    · obtain ⟨r', hr', hb2⟩ := hS b hb'
      exact (hp.2.2 r' hr' s hs).2 ho b hb hb2

theorem rnd_join {vl vs vb : Value} {e1 e2 e3 : Nat} {lv : List Value} {d : RD} (hl : lv.length = d.tols.length) (hr : d.rds.length = d.tols.length)
    (h : Sep X w0 w (row vl e1 2 d.lots.length (pairs d.lots) :: row vs e2 1 d.samples.length (ints d.samples) :: row vb e3 2 d.tols.length (vpairs (d.tols.zip lv)) :: lstR lv d.rds :: L)) : Sep X w0 w (rndR true vl vs vb lv d :: L) := by
  refine joinN (A := [row vl e1 2 d.lots.length (pairs d.lots), row vs e2 1 d.samples.length (ints d.samples), row vb e3 2 d.tols.length (vpairs (d.tols.zip lv)), lstR lv d.rds]) h ⟨SlAt.of_row (h.ok_row 0 rfl), SlAt.of_row (h.ok_row 1 rfl), SlAt.of_row (h.ok_row 2 rfl), (h.ok 3 _ rfl : (lstR lv d.rds).p w).2, hl, hr⟩ (fun b hb => ?_) rfl
  rcases hb with hb | hb | hb | hb
  · exact ⟨_, List.mem_cons_self .., slFoot_row hb⟩
  · exact ⟨_, List.mem_cons_of_mem _ (List.mem_cons_self ..), slFoot_row hb⟩
  · exact ⟨_, List.mem_cons_of_mem _ (List.mem_cons_of_mem _ (List.mem_cons_self ..)), slFoot_row hb⟩
  · exact ⟨_, List.mem_cons_of_mem _ (List.mem_cons_of_mem _ (List.mem_cons_of_mem _ (List.mem_cons_self ..))), hb⟩
end

theorem zip_snoc {T : List Int} {V : List Value} (h : T.length = V.length) (t : Int) (v : Value) : (T ++ [t]).zip (V ++ [v]) = T.zip V ++ [(t, v)] := by
  rw [List.zip_append h]; rfl
theorem take_snocL {α : Type} (l : List α) (k : Nat) (z : α) (h : k < l.length) : l.take (k + 1) = l.take k ++ [l.getD k z] := by
  rw [List.take_succ_eq_append_getElem h]; simp [List.getD, h]

def trialD : RD := { lots := [(100, 140), (200, 260)], samples := [0, 0, 1], spread := 2, tols := [3, 3, 2, 5], rds := [[120, 122, 230], [124, 121, 234], [131, 133, 240], [-1, 118, 229]] }
end Go.Proofs.Ytfhmigoddaaljaa

namespace Go.Proofs.Ytfhmigoddaaljaa
open Go.RowKit Go.Eng

def rdv (d : RD) (q i : Nat) : Int := (d.rds.getD q []).getD i 0
/-- The value x of sample i agrees with all readings but those of the laboratories that are off; those of one being less by a shift. -/
def Agree (d : RD) (off : List Bool) (lab sh : Int) (i : Nat) (x : Int) : Prop :=
  ∀ q, q < d.tols.length → off.getD q false = false → rdv d q i ≠ -1 → rdv d q i - (if (q : Int) = lab then sh else 0) - d.tols.getD q 0 ≤ x ∧ x ≤ rdv d q i - (if (q : Int) = lab then sh else 0) + d.tols.getD q 0
structure Truth (d : RD) (off : List Bool) (lab sh : Int) (L v : Nat → Int) : Prop where
  lots : ∀ i, i < d.lots.length → (d.lots.getD i (0, 0)).1 ≤ L i ∧ L i ≤ (d.lots.getD i (0, 0)).2
  near : ∀ k, k < d.samples.length → L (lotOf d k) - d.spread ≤ v k ∧ v k ≤ L (lotOf d k) + d.spread
  agree : ∀ k, k < d.samples.length → Agree d off lab sh k (v k)

theorem mem_foldCut : ∀ (l : List (Int × Int)) (p : Int × Int) (x : Int), ((l.foldl cutP p).1 ≤ x ∧ x ≤ (l.foldl cutP p).2) ↔ (p.1 ≤ x ∧ x ≤ p.2) ∧ ∀ r ∈ l, r.1 ≤ x ∧ x ≤ r.2
  | [], p, x => by simp
  | r :: l, p, x => by
    rw [List.foldl_cons, mem_foldCut l (cutP p r) x]
    simp only [cutP, List.mem_cons, forall_eq_or_imp]
    constructor
    · rintro ⟨h1, h2⟩; exact ⟨by omega, by omega, h2⟩
    · rintro ⟨h1, h2, h3⟩; exact ⟨by omega, h3⟩

theorem mem_span {d : RD} {off : List Bool} {lab sh : Int} {i : Nat} {x : Int} : ((spanAt d i off lab sh).1 ≤ x ∧ x ≤ (spanAt d i off lab sh).2) ↔ (-bigR ≤ x ∧ x ≤ bigR) ∧ Agree d off lab sh i x := by
  unfold spanAt
  rw [mem_foldCut]
  refine and_congr_right fun _ => ?_
  constructor
  · intro h q hq ho hr
    by_cases hl : (q : Int) = lab
    · have := h _ (List.mem_filterMap.2 ⟨q, List.mem_range.2 hq, rd_yes1 ho hr hl⟩)
      rw [if_pos hl]; exact this
    · have := h _ (List.mem_filterMap.2 ⟨q, List.mem_range.2 hq, rd_yes2 ho hr hl⟩)
      rw [if_neg hl, Int.sub_zero]; exact this
  · intro h r hr
    obtain ⟨q, hq, he⟩ := List.mem_filterMap.1 hr
    rw [List.mem_range] at hq
    unfold rdOne at he
    split at he
    · cases he
    · rename_i ho
      split at he
      · cases he
      · rename_i hr
        have hh := h q hq (by simpa using ho) hr
        split at he
        · rename_i hl
          cases he; rw [if_pos hl] at hh; exact hh
        · rename_i hl
          cases he; rw [if_neg hl, Int.sub_zero] at hh; exact hh

/-- What lies in the lots after k samples. -/
theorem mem_lots {d : RD} (hV : Valid d) {off : List Bool} {lab sh : Int} : ∀ {k : Nat} {out lots : List (Int × Int)}, k ≤ d.samples.length → spLoop d off lab sh k = some (out, lots) →
    out.length = k ∧ lots.length = d.lots.length ∧ (∀ j, j < k → out.getD j (0, 0) = spanAt d j off lab sh ∧ (spanAt d j off lab sh).1 ≤ (spanAt d j off lab sh).2) ∧
    ∀ i, i < d.lots.length → ∀ x : Int, ((lots.getD i (0, 0)).1 ≤ x ∧ x ≤ (lots.getD i (0, 0)).2) ↔ ((d.lots.getD i (0, 0)).1 ≤ x ∧ x ≤ (d.lots.getD i (0, 0)).2) ∧ ∀ j, j < k → lotOf d j = i → (spanAt d j off lab sh).1 - d.spread ≤ x ∧ x ≤ (spanAt d j off lab sh).2 + d.spread
  | 0, out, lots, _, h => by
    cases h
    exact ⟨rfl, rfl, fun j hj => by omega, fun i hi x => ⟨fun h => ⟨h, fun j hj => by omega⟩, fun h => h.1⟩⟩
  | k + 1, out, lots, hk, h => by
    simp only [spLoop] at h
    cases hp : spLoop d off lab sh k with
    | none => rw [hp] at h; cases h
    | some p =>
      obtain ⟨o, l⟩ := p
      rw [hp] at h
      obtain ⟨h1, h2, h3, h4⟩ := mem_lots hV (by omega) hp
      dsimp only at h
      split at h
      · cases h
      · rename_i hne
        cases h
        refine ⟨by simp [h1], by simp [h2], fun j hj => ?_, fun i hi x => ?_⟩
        · rw [getD_appP]
          split
          · rename_i e; rw [h1] at e; subst e; exact ⟨rfl, by omega⟩
          · exact h3 j (by omega)
        · have hs := hV.samples k (by omega)
          have hlt : lotOf d k < d.lots.length := by unfold lotOf; omega
          rw [getD_setP]
          by_cases e : lotOf d k = i
          · rw [if_pos ⟨e, by omega⟩]
            subst e
            have := h4 _ hi x
            simp only [cutP, widerP]
            constructor
            · intro hx
              have h5 := this.1 (by omega)
              refine ⟨h5.1, fun j hj hji => ?_⟩
              by_cases ej : j = k
              · subst ej; omega
              · exact h5.2 j (by omega) hji
            · intro hx
              have h6 := this.2 ⟨hx.1, fun j hj hji => hx.2 j (by omega) hji⟩
              have h7 := hx.2 k (by omega) rfl
              omega
          · rw [if_neg (fun h => e h.1)]
            rw [h4 i hi x]
            refine and_congr_right fun _ => ⟨fun h j hj hji => ?_, fun h j hj hji => h j (by omega) hji⟩
            by_cases ej : j = k
            · subst ej; exact absurd hji e
            · exact h j (by omega) hji

theorem spLoop_none {d : RD} {off : List Bool} {lab sh : Int} : ∀ {k : Nat}, spLoop d off lab sh k = none → ∃ j, j < k ∧ (spanAt d j off lab sh).2 < (spanAt d j off lab sh).1
  | 0, h => by cases h
  | k + 1, h => by
    simp only [spLoop] at h
    cases hp : spLoop d off lab sh k with
    | none => obtain ⟨j, h1, h2⟩ := spLoop_none hp; exact ⟨j, by omega, h2⟩
    | some p =>
      rw [hp] at h
      obtain ⟨o, l⟩ := p
      dsimp only at h
      split at h
      · rename_i hlt; exact ⟨k, by omega, hlt⟩
      · cases h

section
variable {d : RD} {off : List Bool} {lab sh : Int}
theorem Truth.in_span (hV : Valid d) {L v : Nat → Int} (hT : Truth d off lab sh L v) {k : Nat} (hk : k < d.samples.length) : (spanAt d k off lab sh).1 ≤ v k ∧ v k ≤ (spanAt d k off lab sh).2 := by
  have hs := hV.samples k hk
  have hl := hT.lots (lotOf d k) (by unfold lotOf; omega)
  have hl2 := hV.lots (lotOf d k) (by unfold lotOf; omega)
  have hn := hT.near k hk
  have hsp := hV.spread
  exact mem_span.2 ⟨by unfold bigR; omega, hT.agree k hk⟩

/-- A value in the last cut of a sample: there is a truth with it. -/
theorem truth_of (hV : Valid d) {out lots : List (Int × Int)} (h : spLoop d off lab sh d.samples.length = some (out, lots)) (hok : okLots lots = true) (L0 : Nat → Int) (hL0 : ∀ i, i < d.lots.length → (lots.getD i (0, 0)).1 ≤ L0 i ∧ L0 i ≤ (lots.getD i (0, 0)).2) :
    Truth d off lab sh L0 (fun k => max (spanAt d k off lab sh).1 (L0 (lotOf d k) - d.spread)) := by
  obtain ⟨h1, h2, h3, h4⟩ := mem_lots hV (Nat.le_refl _) h
  have hsp := hV.spread
  refine ⟨fun i hi => ((h4 i hi _).1 (hL0 i hi)).1, fun k hk => ?_, fun k hk => ?_⟩
  · have hs := hV.samples k hk
    have hlt : lotOf d k < d.lots.length := by unfold lotOf; omega
    have := ((h4 _ hlt _).1 (hL0 _ hlt)).2 k hk rfl
    (try dsimp only); omega
  · have hs := hV.samples k hk
    have hlt : lotOf d k < d.lots.length := by unfold lotOf; omega
    have := ((h4 _ hlt _).1 (hL0 _ hlt)).2 k hk rfl
    have h5 := (h3 k hk).2
    exact (mem_span.1 ⟨by omega, by omega⟩).2

theorem ok_iff (hV : Valid d) : (spansF d off lab sh).2 = true ↔ ∃ L v, Truth d off lab sh L v := by
  unfold spansF
  cases h : spLoop d off lab sh d.samples.length with
  | none =>
    simp only [Bool.false_eq_true, false_iff]
    rintro ⟨L, v, hT⟩
    obtain ⟨j, hj, hlt⟩ := spLoop_none h
    have := hT.in_span hV hj
    omega
  | some p =>
    obtain ⟨out, lots⟩ := p
    obtain ⟨h1, h2, h3, h4⟩ := mem_lots hV (Nat.le_refl _) h
    try dsimp only
    constructor
    · intro hok
      refine ⟨_, _, truth_of hV h hok (fun i => (lots.getD i (0, 0)).1) (fun i hi => ⟨Int.le_refl _, ?_⟩)⟩
      unfold okLots at hok
      rw [List.all_eq_true] at hok
      have := hok (lots[i]'(by omega)) (List.getElem_mem _)
      simp only [Bool.not_eq_true', decide_eq_false_iff_not] at this
      simp only [List.getD, List.getElem?_eq_getElem (show i < lots.length by omega), Option.getD_some]
      omega
    · rintro ⟨L, v, hT⟩
      refine okLots_yes (k := lots.length) (Nat.le_refl _) (fun i hi => ?_)
      have := (h4 i (by omega) (L i)).2 ⟨hT.lots i (by omega), fun j hj hji => ?_⟩
      · omega
      · have a := hT.in_span hV hj
        have b := hT.near j hj
        rw [hji] at b
        omega

theorem spansF_len (hok : (spansF d off lab sh).2 = true) : (spansF d off lab sh).1.length = d.samples.length := by
  unfold spansF at *
  split at hok
  · cases hok
  · rename_i out lots h; simp

/-- The spans are the values that the truths have. -/
theorem span_iff (hV : Valid d) (hok : (spansF d off lab sh).2 = true) {k : Nat} (hk : k < d.samples.length) (x : Int) :
    (((spansF d off lab sh).1.getD k (0, 0)).1 ≤ x ∧ x ≤ ((spansF d off lab sh).1.getD k (0, 0)).2) ↔ ∃ L v, Truth d off lab sh L v ∧ v k = x := by
  have hok0 := hok
  unfold spansF at hok ⊢
  cases h : spLoop d off lab sh d.samples.length with
  | none => rw [h] at hok; cases hok
  | some p =>
    obtain ⟨out, lots⟩ := p
    rw [h] at hok
    dsimp only at hok ⊢
    obtain ⟨h1, h2, h3, h4⟩ := mem_lots hV (Nat.le_refl _) h
    have hg : ((List.range d.samples.length).map (lastCut d lots out)).getD k (0, 0) = lastCut d lots out k := by simp [List.getD, hk]
    rw [hg]
    simp only [lastCut, cutP, widerP, (h3 k hk).1]
    have hs := hV.samples k hk
    have hsp := hV.spread
    have hlt : lotOf d k < d.lots.length := by unfold lotOf; omega
    have hne : ∀ i, i < d.lots.length → (lots.getD i (0, 0)).1 ≤ (lots.getD i (0, 0)).2 := fun i hi => by
      unfold okLots at hok
      rw [List.all_eq_true] at hok
      have := hok (lots[i]'(by omega)) (List.getElem_mem _)
      simp only [Bool.not_eq_true', decide_eq_false_iff_not] at this
      simp only [List.getD, List.getElem?_eq_getElem (show i < lots.length by omega), Option.getD_some]
      omega
    constructor
    · intro hx
      have hlk := hne _ hlt
      let L0 : Nat → Int := fun i => if i = lotOf d k then max (lots.getD i (0, 0)).1 (x - d.spread) else (lots.getD i (0, 0)).1
      have hL0 : ∀ i, i < d.lots.length → (lots.getD i (0, 0)).1 ≤ L0 i ∧ L0 i ≤ (lots.getD i (0, 0)).2 := fun i hi => by
        have := hne i hi
        show _ ≤ (if i = lotOf d k then _ else _) ∧ (if i = lotOf d k then _ else _) ≤ _
        by_cases e : i = lotOf d k
        · rw [if_pos e]; subst e; omega
        · rw [if_neg e]; omega
      have hT := truth_of hV h hok L0 hL0
      have hLk : L0 (lotOf d k) = max (lots.getD (lotOf d k) (0, 0)).1 (x - d.spread) := if_pos rfl
      refine ⟨L0, fun j => if j = k then x else max (spanAt d j off lab sh).1 (L0 (lotOf d j) - d.spread), ⟨hT.lots, fun j hj => ?_, fun j hj => ?_⟩, if_pos rfl⟩
      · try dsimp only
        by_cases e : j = k
        · subst e; rw [if_pos rfl, hLk]; omega
        · rw [if_neg e]; exact hT.near j hj
      · try dsimp only
        by_cases e : j = k
        · subst e; rw [if_pos rfl]; exact (mem_span.1 ⟨by omega, by omega⟩).2
        · rw [if_neg e]; exact hT.agree j hj
    · rintro ⟨L, v, hT, rfl⟩
      have a := hT.in_span hV hk
      have b := hT.near k hk
      have c := (h4 _ hlt (L (lotOf d k))).2 ⟨hT.lots _ hlt, fun j hj hji => by
        have a := hT.in_span hV hj
        have b := hT.near j hj
        rw [hji] at b
        omega⟩
      omega
end

/-! ### Shifts -/
/-- Between two shifts by which a laboratory errs lie only such. -/
theorem truth_between {d : RD} {off : List Bool} {lab s1 s2 s : Int} {L1 v1 L2 v2 : Nat → Int} (h1 : Truth d off lab s1 L1 v1) (h2 : Truth d off lab s2 L2 v2) (ha : s2 ≤ s) (hb : s ≤ s1) :
    Truth d off lab s (fun i => max (L1 i) (L2 i - (s - s2))) (fun k => max (v1 k) (v2 k - (s - s2))) := by
  refine ⟨fun i hi => ?_, fun k hk => ?_, fun k hk q hq ho hr => ?_⟩
  · have a := h1.lots i hi; have b := h2.lots i hi; (try dsimp only); omega
  · have a := h1.near k hk; have b := h2.near k hk; (try dsimp only); omega
  · have a := h1.agree k hk q hq ho hr; have b := h2.agree k hk q hq ho hr
    try dsimp only
    split at a
    · rename_i e; rw [if_pos e] at b ⊢; omega
    · rename_i e; rw [if_neg e] at b ⊢; omega

theorem shOk_iff {d : RD} (hV : Valid d) {lab s : Int} : shOk d lab s = true ↔ ∃ L v, Truth d off0 lab s L v := ok_iff hV
theorem shOk_between {d : RD} (hV : Valid d) {lab s1 s2 s : Int} (h1 : shOk d lab s1 = true) (h2 : shOk d lab s2 = true) (ha : s1 ≤ s) (hb : s ≤ s2) : shOk d lab s = true := by
  obtain ⟨L1, v1, t1⟩ := (shOk_iff hV).1 h1
  obtain ⟨L2, v2, t2⟩ := (shOk_iff hV).1 h2
  exact (shOk_iff hV).2 ⟨_, _, truth_between t2 t1 ha hb⟩

/-- What the loop over the shifts finds. -/
theorem shUpto_spec {d : RD} {lab : Int} : ∀ (k : Nat), k ≤ 4001 →
    (shUpto d lab k = (1073741824, -1073741824) ∧ ∀ s, -2000 ≤ s → s < (k : Int) - 2000 → shOk d lab s = false) ∨
    (∃ lo hi, shUpto d lab k = (lo, hi) ∧ -2000 ≤ lo ∧ lo ≤ hi ∧ hi < (k : Int) - 2000 ∧ shOk d lab lo = true ∧ shOk d lab hi = true ∧ ∀ s, -2000 ≤ s → s < (k : Int) - 2000 → shOk d lab s = true → lo ≤ s ∧ s ≤ hi)
  | 0, _ => .inl ⟨rfl, fun s h1 h2 => by omega⟩
  | k + 1, hk => by
    have ih := shUpto_spec (d := d) (lab := lab) k (by omega)
    rcases Bool.eq_false_or_eq_true (shOk d lab ((k : Int) - 2000)) with ht | hf
    · rw [shUpto_yes ht]
      rcases ih with ⟨h1, h2⟩ | ⟨lo, hi, h1, h2, h3, h4, h5, h6, h7⟩
      · refine .inr ⟨(k : Int) - 2000, (k : Int) - 2000, by rw [h1]; dsimp only; rw [Int.min_eq_right (by omega)], by omega, by omega, by omega, ht, ht, fun s a b c => ?_⟩
        by_cases e : s = (k : Int) - 2000
        · omega
        · rw [h2 s a (by omega)] at c; cases c
      · refine .inr ⟨lo, (k : Int) - 2000, by rw [h1]; dsimp only; rw [Int.min_eq_left (by omega)], by omega, by omega, by omega, h5, ht, fun s a b c => ?_⟩
        by_cases e : s = (k : Int) - 2000
        · omega
        · have := h7 s a (by omega) c; omega
    · rw [shUpto_no hf]
      rcases ih with ⟨h1, h2⟩ | ⟨lo, hi, h1, h2, h3, h4, h5, h6, h7⟩
      · refine .inl ⟨h1, fun s a b => ?_⟩
        by_cases e : s = (k : Int) - 2000
        · rw [e]; exact hf
        · exact h2 s a (by omega)
      · refine .inr ⟨lo, hi, h1, h2, h3, by omega, h5, h6, fun s a b c => ?_⟩
        by_cases e : s = (k : Int) - 2000
        · rw [e, hf] at c; cases c
        · exact h7 s a (by omega) c

/-- The shifts, told whole. -/
theorem shifts_spec {d : RD} (hV : Valid d) (lab : Int) :
    (shUpto d lab 4001 = (1073741824, -1073741824) ∧ ∀ s, -2000 ≤ s → s ≤ 2000 → shOk d lab s = false) ∨
    (∃ lo hi, shUpto d lab 4001 = (lo, hi) ∧ -2000 ≤ lo ∧ lo ≤ hi ∧ hi ≤ 2000 ∧ ∀ s, -2000 ≤ s → s ≤ 2000 → (shOk d lab s = true ↔ lo ≤ s ∧ s ≤ hi)) := by
  rcases shUpto_spec (d := d) (lab := lab) 4001 (by omega) with ⟨h1, h2⟩ | ⟨lo, hi, h1, h2, h3, h4, h5, h6, h7⟩
  · exact .inl ⟨h1, fun s a b => h2 s a (by omega)⟩
  · exact .inr ⟨lo, hi, h1, h2, h3, by omega, fun s a b => ⟨fun c => h7 s a (by omega) c, fun c => shOk_between hV h5 h6 c.1 c.2⟩⟩

theorem valid_trial : Valid trialD := valid_of (by decide)
theorem shifts_trial : shiftsR trialD 2 = ((8, 11), 0) := by
  have h8 : shOk trialD 2 8 = true := by decide +kernel
  have h11 : shOk trialD 2 11 = true := by decide +kernel
  have h7 : shOk trialD 2 7 = false := by decide +kernel
  have h12 : shOk trialD 2 12 = false := by decide +kernel
  have hs : shUpto trialD 2 4001 = (8, 11) := by
    rcases shifts_spec valid_trial 2 with ⟨_, h2⟩ | ⟨lo, hi, h1, h2, h3, h4, h5⟩
    · rw [h2 8 (by omega) (by omega)] at h8; cases h8
    · have a := (h5 8 (by omega) (by omega)).1 h8
      have b := (h5 11 (by omega) (by omega)).1 h11
      have c : ¬ (lo ≤ 7 ∧ 7 ≤ hi) := fun h => by rw [(h5 7 (by omega) (by omega)).2 h] at h7; cases h7
      have e : ¬ (lo ≤ 12 ∧ 12 ≤ hi) := fun h => by rw [(h5 12 (by omega) (by omega)).2 h] at h12; cases h12
      rw [h1, show lo = 8 by omega, show hi = 11 by omega]
  unfold shiftsR
  rw [if_pos (by decide), if_pos (by decide), if_pos (by decide +kernel), hs]
  decide
theorem explains_trial : explainsF trialD [] = (false, 0) := by decide +kernel
theorem explains_trial2 : explainsF trialD [2] = (true, 0) := by decide +kernel
def spT : List (Int × Int) := [(121, 123), (119, 123), (231, 233)]
theorem spans_trial2 : spansR trialD [2] = (spT, 0) := by decide +kernel
theorem least_trial : leastR trialD = ([2], 0) := by decide +kernel
end Go.Proofs.Ytfhmigoddaaljaa

namespace Go.Proofs.Ytfhmigoddaaljaa
open Go.RowKit Go.Eng

theorem all_yes {p : Nat → Bool} {n : Nat} (h : ∀ i, i < n → p i = true) : (List.range n).all p = true := by
  rw [List.all_eq_true]; exact fun i hi => h i (List.mem_range.1 hi)
theorem all_no {p : Nat → Bool} {n k : Nat} (hk : k < n) (h : p k = false) : (List.range n).all p = false := by
  rw [List.all_eq_false]; exact ⟨k, List.mem_range.2 hk, by simp [h]⟩
theorem any_yes {p : Nat → Bool} {n k : Nat} (hk : k < n) (h : p k = true) : (List.range n).any p = true := List.any_eq_true.2 ⟨k, List.mem_range.2 hk, h⟩
theorem any_no {p : Nat → Bool} {n : Nat} (h : ∀ i, i < n → p i = false) : (List.range n).any p = false := by
  rw [List.any_eq_false]; exact fun i hi => by simp [h i (List.mem_range.1 hi)]
theorem labB_yes {ns : Nat} {tol : Int} {rs : List Int} (h1 : 0 ≤ tol ∧ tol ≤ 100) (h2 : (rs.length : Int) = ns) (h3 : ∀ j, j < rs.length → rdB (rs.getD j 0) = true) : labB ns tol rs = true := by
  unfold labB tolB; rw [all_yes h3, decide_eq_true h1.1, decide_eq_true h1.2, decide_eq_true h2]; rfl
theorem labB_no1 {ns : Nat} {tol : Int} {rs : List Int} (h : ¬ (0 ≤ tol ∧ tol ≤ 100) ∨ ¬ ((rs.length : Int) = ns)) : labB ns tol rs = false := by
  unfold labB tolB
  simp only [Bool.and_eq_false_iff, decide_eq_false_iff_not]; omega
theorem labB_no2 {ns : Nat} {tol : Int} {rs : List Int} {j : Nat} (hj : j < rs.length) (h : rdB (rs.getD j 0) = false) : labB ns tol rs = false := by
  unfold labB; rw [all_no hj h, Bool.and_false]

def thinB (d : RD) : Bool := (List.range (min d.tols.length 9)).all (fun k => decide ((d.rds.getD k []).length ≤ 10)) && (decide (d.lots.length ≤ 6) && decide (d.samples.length ≤ 10) && decide (d.tols.length ≤ 8))
theorem thin_of {d : RD} (h : thinB d = true) : d.lots.length ≤ 6 ∧ d.samples.length ≤ 10 ∧ d.tols.length ≤ 8 ∧ ∀ k, k < d.tols.length → (d.rds.getD k []).length ≤ 10 := by
  unfold thinB at h
  simp only [Bool.and_eq_true, decide_eq_true_eq, List.all_eq_true, List.mem_range] at h
  exact ⟨h.2.1.1, h.2.1.2, h.2.2, fun k hk => h.1 k (by omega)⟩
def wideUpto (d : RD) : Nat → Int
  | 0 => 0
  | k + 1 => wideUpto d k + ((d.lots.getD k (0, 0)).2 - (d.lots.getD k (0, 0)).1)
theorem wideUpto_bd {d : RD} (hV : Valid d) : ∀ k, k ≤ d.lots.length → 0 ≤ wideUpto d k ∧ wideUpto d k ≤ 1000 * k
  | 0, _ => ⟨Int.le_refl _, by simp [wideUpto]⟩
  | k + 1, h => by
    have := wideUpto_bd hV k (by omega)
    have := hV.lots k (by omega)
    simp only [wideUpto]; omega
def fewB (d : RD) : Bool := thinB d && (!decide (checkR d = 0) || (decide (wideUpto d d.lots.length ≤ 60) && decide (d.spread ≤ 8)))

/-! ### The reference -/
def shOf (lab sh : Int) (q : Nat) : Int := if (q : Int) = lab then sh else 0
def agAt (d : RD) (l : List Int) (lab sh : Int) (i : Nat) (x : Int) (q : Nat) : Bool :=
  decide (rdv d q i < 0) || hasB l q || (decide (rdv d q i - shOf lab sh q - d.tols.getD q 0 ≤ x) && decide (x ≤ rdv d q i - shOf lab sh q + d.tols.getD q 0))
def agB (d : RD) (l : List Int) (lab sh : Int) (i : Nat) (x : Int) : Bool := (List.range d.tols.length).all (agAt d l lab sh i x)
def nearB (d : RD) (l : List Int) (lab sh : Int) (i : Nat) (y : Int) : Bool := (List.range (2 * d.spread + 1).toNat).any fun t => agB d l lab sh i (y - d.spread + (t : Int))
def lfB (d : RD) (l : List Int) (lab sh : Int) (lot x : Int) : Bool := (List.range d.samples.length).all fun i => !decide (d.samples.getD i 0 = lot) || nearB d l lab sh i x
def lotUpto (d : RD) (l : List Int) (lab sh : Int) (i n : Nat) : List Int := ((List.range n).map fun (t : Nat) => (d.lots.getD i (0, 0)).1 + (t : Int)).filter (lfB d l lab sh i)
def lotVals (d : RD) (l : List Int) (lab sh : Int) (i : Nat) : List Int := lotUpto d l lab sh i ((d.lots.getD i (0, 0)).2 - (d.lots.getD i (0, 0)).1 + 1).toNat
def lotsUpto (d : RD) (l : List Int) (lab sh : Int) (n : Nat) : List (List Int) := (List.range n).map (lotVals d l lab sh)
def canUpto (d : RD) (l : List Int) (lab sh : Int) (n : Nat) : Bool := (List.range n).all fun i => decide (0 < (lotVals d l lab sh i).length)
def refOk (d : RD) (l : List Int) (lab sh : Int) : Bool := canUpto d l lab sh d.lots.length
theorem agAt_y1 {d : RD} {l : List Int} {lab sh : Int} {i q : Nat} {x : Int} (h : (d.rds.getD q []).getD i 0 < 0) : agAt d l lab sh i x q = true := by
  unfold agAt; rw [decide_eq_true (show rdv d q i < 0 from h)]; rfl
theorem agAt_y2 {d : RD} {l : List Int} {lab sh : Int} {i q : Nat} {x : Int} (h : hasB l q = true) : agAt d l lab sh i x q = true := by
  unfold agAt; rw [h, Bool.or_true]; rfl
theorem agAt_y3 {d : RD} {l : List Int} {lab sh : Int} {i q : Nat} {x : Int} (h : (d.rds.getD q []).getD i 0 - shOf lab sh q - d.tols.getD q 0 ≤ x ∧ x ≤ (d.rds.getD q []).getD i 0 - shOf lab sh q + d.tols.getD q 0) : agAt d l lab sh i x q = true := by
  unfold agAt; rw [decide_eq_true (show rdv d q i - shOf lab sh q - d.tols.getD q 0 ≤ x from h.1), decide_eq_true (show x ≤ rdv d q i - shOf lab sh q + d.tols.getD q 0 from h.2)]; simp
theorem agAt_no {d : RD} {l : List Int} {lab sh : Int} {i q : Nat} {x : Int} (h1 : ¬ (d.rds.getD q []).getD i 0 < 0) (h2 : hasB l q = false) (h : ¬ ((d.rds.getD q []).getD i 0 - shOf lab sh q - d.tols.getD q 0 ≤ x ∧ x ≤ (d.rds.getD q []).getD i 0 - shOf lab sh q + d.tols.getD q 0)) : agAt d l lab sh i x q = false := by
  unfold agAt
  rw [decide_eq_false (show ¬ rdv d q i < 0 from h1), h2]
  simp only [Bool.or_false, Bool.false_or, Bool.and_eq_false_iff, decide_eq_false_iff_not]
  unfold rdv; omega
theorem shOf_y {lab sh : Int} {q : Nat} (h : (q : Int) = lab) : shOf lab sh q = sh := if_pos h
theorem shOf_n {lab sh : Int} {q : Nat} (h : ¬ (q : Int) = lab) : shOf lab sh q = 0 := if_neg h
theorem lotUpto_yes {d : RD} {l : List Int} {lab sh : Int} {i n : Nat} (h : lfB d l lab sh i ((d.lots.getD i (0, 0)).1 + (n : Int)) = true) : lotUpto d l lab sh i (n + 1) = lotUpto d l lab sh i n ++ [(d.lots.getD i (0, 0)).1 + (n : Int)] := by
  unfold lotUpto; rw [List.range_succ, List.map_append, List.filter_append, List.map_singleton, List.filter_cons, if_pos h]; rfl
theorem lotUpto_no {d : RD} {l : List Int} {lab sh : Int} {i n : Nat} (h : lfB d l lab sh i ((d.lots.getD i (0, 0)).1 + (n : Int)) = false) : lotUpto d l lab sh i (n + 1) = lotUpto d l lab sh i n := by
  unfold lotUpto; rw [List.range_succ, List.map_append, List.filter_append, List.map_singleton, List.filter_cons, if_neg (by rw [h]; simp)]; simp
theorem lotUpto_len {d : RD} {l : List Int} {lab sh : Int} {i n : Nat} : (lotUpto d l lab sh i n).length ≤ n := by
  unfold lotUpto; refine Nat.le_trans (List.length_filter_le _ _) (by simp)
theorem lotsUpto_succ (d : RD) (l : List Int) (lab sh : Int) (n : Nat) : lotsUpto d l lab sh (n + 1) = lotsUpto d l lab sh n ++ [lotVals d l lab sh n] := by
  unfold lotsUpto; rw [List.range_succ, List.map_append]; rfl
theorem canUpto_succ (d : RD) (l : List Int) (lab sh : Int) (n : Nat) : canUpto d l lab sh (n + 1) = (canUpto d l lab sh n && decide (0 < (lotVals d l lab sh n).length)) := by
  unfold canUpto; rw [List.range_succ, List.all_append]; simp
theorem lotsUpto_length (d : RD) (l : List Int) (lab sh : Int) (n : Nat) : (lotsUpto d l lab sh n).length = n := by simp [lotsUpto]
theorem canUpto_t {d : RD} {l : List Int} {lab sh : Int} {k t : Nat} (h : canUpto d l lab sh k = true) (ht : ((d.lots.getD k (0, 0)).2 - (d.lots.getD k (0, 0)).1 + 1).toNat = t) : canUpto d l lab sh (k + 1) = decide ((0 : Int) < ((lotUpto d l lab sh k t).length : Int)) := by
  rw [canUpto_succ, h, Bool.true_and, lotVals, ht]
  simp
theorem canUpto_f {d : RD} {l : List Int} {lab sh : Int} {k : Nat} (h : canUpto d l lab sh k = false) : canUpto d l lab sh (k + 1) = false := by
  rw [canUpto_succ, h, Bool.false_and]

/-! ### Laboratories by bits -/
def readyB (d : RD) : Bool := thinB d && decide (checkR d = 0)
theorem ready_of {d : RD} (h : readyB d = true) : thinB d = true ∧ checkR d = 0 := by
  unfold readyB at h; simpa using h
def chosenF (n x : Nat) : List Int := ((List.range n).filter (bitB x)).map fun (k : Nat) => (k : Int)
theorem chosenF_yes {n x : Nat} (h : ((x >>> n : Nat) : Int).tmod 2 = 1) : chosenF (n + 1) x = chosenF n x ++ [(n : Int)] := by
  have hb : bitB x n = true := decide_eq_true h
  unfold chosenF; rw [List.range_succ, List.filter_append, List.map_append, List.filter_cons, if_pos hb]; rfl
theorem chosenF_no {n x : Nat} (h : ¬ ((x >>> n : Nat) : Int).tmod 2 = 1) : chosenF (n + 1) x = chosenF n x := by
  have hb : bitB x n = false := decide_eq_false h
  unfold chosenF; rw [List.range_succ, List.filter_append, List.map_append, List.filter_cons, if_neg (by rw [hb]; simp)]; simp
theorem chosenF_len (n x : Nat) : (chosenF n x).length ≤ n := by
  unfold chosenF; rw [List.length_map]; exact Nat.le_trans (List.length_filter_le _ _) (by simp)
theorem mem_chosen {n x : Nat} {k : Int} : k ∈ chosenF n x ↔ ∃ q : Nat, q < n ∧ bitB x q = true ∧ (q : Int) = k := by
  unfold chosenF
  rw [List.mem_map]
  constructor
  · rintro ⟨q, hq, rfl⟩
    rw [List.mem_filter, List.mem_range] at hq
    exact ⟨q, hq.1, hq.2, rfl⟩
  · rintro ⟨q, h1, h2, rfl⟩
    exact ⟨q, List.mem_filter.2 ⟨List.mem_range.2 h1, h2⟩, rfl⟩

/-! ### The reference's spans -/
def updP (p : Int × Int) (x : Int) : Int × Int := (min p.1 x, max p.2 x)
def candIn (d : RD) (l : List Int) (i : Nat) (y : Int) (t : Nat) : List Int := ((List.range t).map fun (s : Nat) => y - d.spread + (s : Int)).filter (agB d l (-1) 0 i)
def candUpto (d : RD) (l : List Int) (i : Nat) (vs : List Int) (n : Nat) : List Int := (vs.take n).flatMap fun y => candIn d l i y (2 * d.spread + 1).toNat
def foldS (c : List Int) : Int × Int := c.foldl updP (1073741824, -1073741824)
theorem candIn_yes {d : RD} {l : List Int} {i t : Nat} {y : Int} (h : agB d l (-1) 0 i (y - d.spread + (t : Int)) = true) : candIn d l i y (t + 1) = candIn d l i y t ++ [y - d.spread + (t : Int)] := by
  unfold candIn; rw [List.range_succ, List.map_append, List.filter_append, List.map_singleton, List.filter_cons, if_pos h]; rfl
theorem candIn_no {d : RD} {l : List Int} {i t : Nat} {y : Int} (h : agB d l (-1) 0 i (y - d.spread + (t : Int)) = false) : candIn d l i y (t + 1) = candIn d l i y t := by
  unfold candIn; rw [List.range_succ, List.map_append, List.filter_append, List.map_singleton, List.filter_cons, if_neg (by rw [h]; simp)]; simp
theorem candUpto_succ {d : RD} {l : List Int} {i n : Nat} {vs : List Int} (h : n < vs.length) : candUpto d l i vs (n + 1) = candUpto d l i vs n ++ candIn d l i (vs.getD n 0) (2 * d.spread + 1).toNat := by
  unfold candUpto; rw [take_snoc vs n h, List.flatMap_append]; simp
theorem foldS_snoc (c : List Int) (x : Int) : foldS (c ++ [x]) = (min (foldS c).1 x, max (foldS c).2 x) := by
  unfold foldS; rw [List.foldl_append]; rfl
theorem foldS_bd : ∀ (c : List Int), (∀ x ∈ c, -10000 ≤ x ∧ x ≤ 10000) → -1073741824 ≤ (foldS c).1 ∧ (foldS c).1 ≤ 1073741824 ∧ -1073741824 ≤ (foldS c).2 ∧ (foldS c).2 ≤ 1073741824 := by
  have key : ∀ (c : List Int) (p : Int × Int), (-1073741824 ≤ p.1 ∧ p.1 ≤ 1073741824 ∧ -1073741824 ≤ p.2 ∧ p.2 ≤ 1073741824) → (∀ x ∈ c, -10000 ≤ x ∧ x ≤ 10000) → -1073741824 ≤ (c.foldl updP p).1 ∧ (c.foldl updP p).1 ≤ 1073741824 ∧ -1073741824 ≤ (c.foldl updP p).2 ∧ (c.foldl updP p).2 ≤ 1073741824 := by
    intro c
    induction c with
    | nil => intro p h _; exact h
    | cons x c ih =>
      intro p h hc
      have := hc x (List.mem_cons_self ..)
      exact ih _ (by simp only [updP]; omega) (fun y hy => hc y (List.mem_cons_of_mem _ hy))
  intro c hc
  exact key c _ (by decide) hc
/-- What the fold finds: the least and the greatest. -/
theorem foldS_spec : ∀ (c : List Int) (p : Int × Int), (∀ x ∈ c, (c.foldl updP p).1 ≤ x ∧ x ≤ (c.foldl updP p).2) ∧ ((c.foldl updP p).1 ≤ p.1 ∧ p.2 ≤ (c.foldl updP p).2) ∧ ((c.foldl updP p).1 = p.1 ∨ (c.foldl updP p).1 ∈ c) ∧ ((c.foldl updP p).2 = p.2 ∨ (c.foldl updP p).2 ∈ c)
  | [], p => ⟨by simp, ⟨Int.le_refl _, Int.le_refl _⟩, .inl rfl, .inl rfl⟩
  | x :: c, p => by
    obtain ⟨h1, h2, h3, h4⟩ := foldS_spec c (updP p x)
    rw [List.foldl_cons]
    have e1 : (updP p x).1 = min p.1 x := rfl
    have e2 : (updP p x).2 = max p.2 x := rfl
    refine ⟨fun y hy => ?_, by omega, ?_, ?_⟩
    · rcases List.mem_cons.1 hy with rfl | hy
      · omega
      · exact h1 y hy
    · rcases h3 with h3 | h3
      · rcases Int.le_total p.1 x with h | h
        · left; omega
        · right; rw [show (c.foldl updP (updP p x)).1 = x by omega]; exact List.mem_cons_self ..
      · right; exact List.mem_cons_of_mem _ h3
    · rcases h4 with h4 | h4
      · rcases Int.le_total x p.2 with h | h
        · left; omega
        · right; rw [show (c.foldl updP (updP p x)).2 = x by omega]; exact List.mem_cons_self ..
      · right; exact List.mem_cons_of_mem _ h4
def refSpan (d : RD) (l : List Int) (i : Nat) : Int × Int := foldS (candUpto d l i (lotVals d l (-1) 0 (lotOf d i)) (lotVals d l (-1) 0 (lotOf d i)).length)
theorem lots_at {d : RD} {l : List Int} {lab sh : Int} {n k : Nat} (h : k < n) : (lotsUpto d l lab sh n).getD k [] = lotVals d l lab sh k := by
  simp [lotsUpto, List.getD, h]
theorem lotUpto_mem {d : RD} {l : List Int} {lab sh : Int} {i n : Nat} {y : Int} (h : y ∈ lotUpto d l lab sh i n) : (d.lots.getD i (0, 0)).1 ≤ y ∧ y < (d.lots.getD i (0, 0)).1 + n := by
  unfold lotUpto at h
  rw [List.mem_filter, List.mem_map] at h
  obtain ⟨⟨t, ht, rfl⟩, _⟩ := h
  rw [List.mem_range] at ht; omega
theorem lotVals_bd {d : RD} (hV : Valid d) {l : List Int} {lab sh : Int} {i : Nat} (hi : i < d.lots.length) {n : Nat} (hn : n < (lotVals d l lab sh i).length) : 0 ≤ (lotVals d l lab sh i).getD n 0 ∧ (lotVals d l lab sh i).getD n 0 ≤ 1000 := by
  have e : (lotVals d l lab sh i).getD n 0 = (lotVals d l lab sh i)[n] := by simp [List.getD, hn]
  have := lotUpto_mem (show (lotVals d l lab sh i)[n] ∈ lotUpto d l lab sh i _ from List.getElem_mem hn)
  have hl := hV.lots i hi
  rw [e]; omega

/-! ### Truths by words -/
def wordF (ws : List Int) (at_ : Int) : Int := if ws.length = 0 then 0 else ws.getD (at_.tmod ws.length).toNat 0
theorem wordF_bd {ws : List Int} (hw : ∀ x ∈ ws, 0 ≤ x ∧ x ≤ 65535) (at_ : Int) : 0 ≤ wordF ws at_ ∧ wordF ws at_ ≤ 65535 := by
  unfold wordF
  split
  · omega
  · simp only [List.getD]
    cases h : ws[(at_.tmod ws.length).toNat]? with
    | none => simp
    | some x => exact hw x (List.mem_of_getElem? h)
theorem tmod_nn {a m : Int} (ha : 0 ≤ a) (hm : 0 < m) : 0 ≤ a.tmod m ∧ a.tmod m < m := ⟨Int.tmod_nonneg m ha, Int.tmod_lt_of_pos a hm⟩
def lotAt (d : RD) (ws : List Int) (i : Nat) : Int := (d.lots.getD i (0, 0)).1 + (wordF ws (i : Int)).tmod ((d.lots.getD i (0, 0)).2 - (d.lots.getD i (0, 0)).1 + 1)
def trueAt (d : RD) (ws : List Int) (i : Nat) : Int := (((d.lots.getD (d.samples.getD i 0).toNat (0, 0)).1 + (wordF ws (d.samples.getD i 0)).tmod ((d.lots.getD (d.samples.getD i 0).toNat (0, 0)).2 - (d.lots.getD (d.samples.getD i 0).toNat (0, 0)).1 + 1)) - d.spread) + (wordF ws (7 * (i : Int) + 3)).tmod (2 * d.spread + 1)
def trueF (d : RD) (ws : List Int) (n : Nat) : List Int := (List.range n).map (trueAt d ws)
theorem map_range_succ {α : Type} (f : Nat → α) (n : Nat) : (List.range (n + 1)).map f = (List.range n).map f ++ [f n] := by rw [List.range_succ, List.map_append]; rfl
theorem trueF_succ (d : RD) (ws : List Int) (n : Nat) : trueF d ws (n + 1) = trueF d ws n ++ [trueAt d ws n] := map_range_succ _ _
theorem trueF_len (d : RD) (ws : List Int) (n : Nat) : (trueF d ws n).length = n := by simp [trueF]
theorem trueF_at {d : RD} {ws : List Int} {n i : Nat} (h : i < n) : (trueF d ws n).getD i 0 = trueAt d ws i := by simp [trueF, List.getD, h]
theorem trueAt_bd {d : RD} (hV : Valid d) {ws : List Int} (hw : ∀ x ∈ ws, 0 ≤ x ∧ x ≤ 65535) {i : Nat} (hi : i < d.samples.length) : -100 ≤ trueAt d ws i ∧ trueAt d ws i ≤ 1100 := by
  have hs := hV.samples i hi
  have hl := hV.lots (d.samples.getD i 0).toNat (by omega)
  have hsp := hV.spread
  have h1 := tmod_nn (wordF_bd hw (d.samples.getD i 0)).1 (show 0 < (d.lots.getD (d.samples.getD i 0).toNat (0, 0)).2 - (d.lots.getD (d.samples.getD i 0).toNat (0, 0)).1 + 1 by omega)
  have h2 := tmod_nn (wordF_bd hw (7 * (i : Int) + 3)).1 (show 0 < 2 * d.spread + 1 by omega)
  unfold trueAt; omega
/-- A reading that is made. -/
def madeAt (d : RD) (ws : List Int) (vals : List Int) (x : Nat) (shift : Int) (k i : Nat) : Int :=
  let n := (vals.getD i 0 - d.tols.getD k 0) + (wordF ws (5 * (k : Int) + (i : Int))).tmod (2 * d.tols.getD k 0 + 1)
  let m := if ((x >>> k : Nat) : Int).tmod 2 = 1 then n + shift else n
  if (d.rds.getD k []).getD i 0 < 0 ∨ ¬ (0 ≤ m ∧ m ≤ 1000) then -1 else m
def madeRow (d : RD) (ws vals : List Int) (x : Nat) (shift : Int) (k i : Nat) : List Int := (List.range i).map (madeAt d ws vals x shift k)
def madeD (d : RD) (ws vals : List Int) (x : Nat) (shift : Int) : RD := { d with rds := (List.range d.tols.length).map fun k => madeRow d ws vals x shift k d.samples.length }
theorem madeRow_succ (d : RD) (ws vals : List Int) (x : Nat) (shift : Int) (k i : Nat) : madeRow d ws vals x shift k (i + 1) = madeRow d ws vals x shift k i ++ [madeAt d ws vals x shift k i] := map_range_succ _ _
theorem madeRow_len (d : RD) (ws vals : List Int) (x : Nat) (shift : Int) (k i : Nat) : (madeRow d ws vals x shift k i).length = i := by simp [madeRow]
section
variable {d : RD} {ws vals : List Int} {x : Nat} {shift : Int} {k i : Nat}
theorem made_no1 (h : (d.rds.getD k []).getD i 0 < 0) : madeAt d ws vals x shift k i = -1 := by unfold madeAt; simp only []; rw [if_pos (.inl h)]
theorem made_b (hb : ((x >>> k : Nat) : Int).tmod 2 = 1) (h : ¬ (d.rds.getD k []).getD i 0 < 0) (m : Int) (hm : m = (vals.getD i 0 - d.tols.getD k 0) + (wordF ws (5 * (k : Int) + (i : Int))).tmod (2 * d.tols.getD k 0 + 1) + shift) : madeAt d ws vals x shift k i = if 0 ≤ m ∧ m ≤ 1000 then m else -1 := by
  subst hm; unfold madeAt; simp only [if_pos hb]
  by_cases h2 : 0 ≤ vals.getD i 0 - d.tols.getD k 0 + (wordF ws (5 * (k : Int) + (i : Int))).tmod (2 * d.tols.getD k 0 + 1) + shift ∧ vals.getD i 0 - d.tols.getD k 0 + (wordF ws (5 * (k : Int) + (i : Int))).tmod (2 * d.tols.getD k 0 + 1) + shift ≤ 1000
  · rw [if_pos h2, if_neg (fun e => e.elim h (fun e => e h2))]
  · rw [if_neg h2, if_pos (.inr h2)]
theorem made_n (hb : ¬ ((x >>> k : Nat) : Int).tmod 2 = 1) (h : ¬ (d.rds.getD k []).getD i 0 < 0) (m : Int) (hm : m = (vals.getD i 0 - d.tols.getD k 0) + (wordF ws (5 * (k : Int) + (i : Int))).tmod (2 * d.tols.getD k 0 + 1)) : madeAt d ws vals x shift k i = if 0 ≤ m ∧ m ≤ 1000 then m else -1 := by
  subst hm; unfold madeAt; simp only [if_neg hb]
  by_cases h2 : 0 ≤ vals.getD i 0 - d.tols.getD k 0 + (wordF ws (5 * (k : Int) + (i : Int))).tmod (2 * d.tols.getD k 0 + 1) ∧ vals.getD i 0 - d.tols.getD k 0 + (wordF ws (5 * (k : Int) + (i : Int))).tmod (2 * d.tols.getD k 0 + 1) ≤ 1000
  · rw [if_pos h2, if_neg (fun e => e.elim h (fun e => e h2))]
  · rw [if_neg h2, if_pos (.inr h2)]
end
end Go.Proofs.Ytfhmigoddaaljaa

namespace Go.Proofs.Ytfhmigoddaaljaa
open Go.RowKit Go.Eng

theorem hasB_iff {l : List Int} {x : Int} : hasB l x = true ↔ x ∈ l := by
  unfold hasB
  rw [List.any_eq_true]
  constructor
  · rintro ⟨i, hi, h⟩
    rw [List.mem_range] at hi
    have : x = l.getD i 0 := by simpa using h
    rw [this]
    simp [List.getD, hi]
  · intro h
    obtain ⟨i, hi, rfl⟩ := List.getElem_of_mem h
    exact ⟨i, List.mem_range.2 hi, by simp [List.getD, hi]⟩

theorem getD_setB (l : List Bool) (i j : Nat) (b : Bool) : (l.set i b).getD j false = if i = j ∧ j < l.length then b else l.getD j false := by
  simp only [List.getD, List.getElem?_set]
  by_cases e : i = j
  · subst e
    by_cases h : i < l.length
    · simp [h]
    · simp [h]
  · simp [e]

theorem off6 {q : Nat} (hq : q < 6) : (List.replicate 6 false).getD q false = false := by
  rw [List.getD, List.getElem?_replicate, if_pos hq]; rfl
theorem off_iff (l : List Int) : ∀ (k : Nat), k ≤ l.length → ∀ q, q < 6 → ((offUpto l k).getD q false = true ↔ ∃ i, i < k ∧ (l.getD i 0).toNat = q)
  | 0, _, q, hq => by
    have : offUpto l 0 = List.replicate 6 false := rfl
    rw [this, off6 hq]
    simp
  | k + 1, hk, q, hq => by
    rw [offUpto_succ l k (by omega), getD_setB, offUpto_length]
    by_cases e : (l.getD k 0).toNat = q
    · rw [if_pos ⟨e, hq⟩]; simp; exact ⟨k, by omega, by simpa [List.getD] using e⟩
    · rw [if_neg (fun h => e h.1), off_iff l k (by omega) q hq]
      constructor
      · rintro ⟨i, h1, h2⟩; exact ⟨i, by omega, h2⟩
      · rintro ⟨i, h1, h2⟩
        by_cases ei : i = k
        · subst ei; exact absurd h2 e
        · exact ⟨i, by omega, h2⟩

theorem rise_mem {nb : Nat} {l : List Int} (h : riseB nb l = true) {x : Int} (hx : x ∈ l) : 0 ≤ x ∧ x ≤ (nb : Int) - 1 := by
  unfold riseB at h
  rw [List.all_eq_true] at h
  obtain ⟨i, hi, rfl⟩ := List.getElem_of_mem hx
  have := h i (List.mem_range.2 hi)
  unfold riseAt at this
  simp only [Bool.and_eq_true, decide_eq_true_eq, List.getD, List.getElem?_eq_getElem hi, Option.getD_some] at this
  exact this.1

theorem off_has {nb : Nat} {l : List Int} (h : riseB nb l = true) {q : Nat} (hq : q < 6) : (offUpto l l.length).getD q false = hasB l (q : Int) := by
  rw [Bool.eq_iff_iff, off_iff l _ (Nat.le_refl _) q hq, hasB_iff]
  constructor
  · rintro ⟨i, hi, e⟩
    have hm : l[i] ∈ l := List.getElem_mem hi
    have := rise_mem h hm
    have e2 : l.getD i 0 = l[i] := by simp [List.getD, hi]
    rw [e2] at e
    rw [show (q : Int) = l[i] by omega]; exact hm
  · intro hm
    obtain ⟨i, hi, e⟩ := List.getElem_of_mem hm
    exact ⟨i, hi, by simp [List.getD, hi, e]⟩

theorem ag_iff {d : RD} (hV : Valid d) {l : List Int} {off : List Bool} (hoff : ∀ q, q < d.tols.length → off.getD q false = hasB l (q : Int)) {lab sh : Int} {i : Nat} (hi : i < d.samples.length) {x : Int} : agB d l lab sh i x = true ↔ Agree d off lab sh i x := by
  unfold agB
  rw [List.all_eq_true]
  constructor
  · intro h q hq ho hr
    have := h q (List.mem_range.2 hq)
    have hb := hV.rds q hq i hi
    rw [hoff q hq] at ho
    unfold agAt at this
    rw [ho] at this
    simp only [Bool.or_eq_true, Bool.and_eq_true, decide_eq_true_eq, Bool.false_eq_true, or_false] at this
    unfold shOf at this
    rcases this with h1 | h1
    · unfold rdv at hr h1; omega
    · exact h1
  · intro h q hq
    rw [List.mem_range] at hq
    have hb := hV.rds q hq i hi
    unfold agAt
    simp only [Bool.or_eq_true, Bool.and_eq_true, decide_eq_true_eq]
    by_cases h1 : rdv d q i < 0
    · exact .inl (.inl h1)
    · by_cases h2 : hasB l (q : Int) = true
      · exact .inl (.inr h2)
      · refine .inr ?_
        have := h q hq (by rw [hoff q hq]; simpa using h2) (by unfold rdv at *; omega)
        unfold shOf; exact this

theorem near_iff {d : RD} (hV : Valid d) {l : List Int} {off : List Bool} (hoff : ∀ q, q < d.tols.length → off.getD q false = hasB l (q : Int)) {lab sh : Int} {i : Nat} (hi : i < d.samples.length) {y : Int} : nearB d l lab sh i y = true ↔ ∃ x, y - d.spread ≤ x ∧ x ≤ y + d.spread ∧ Agree d off lab sh i x := by
  have hsp := hV.spread
  unfold nearB
  rw [List.any_eq_true]
  constructor
  · rintro ⟨t, ht, h⟩
    rw [List.mem_range] at ht
    exact ⟨y - d.spread + (t : Int), by omega, by omega, (ag_iff hV hoff hi).1 h⟩
  · rintro ⟨x, h1, h2, h3⟩
    refine ⟨(x - (y - d.spread)).toNat, List.mem_range.2 (by omega), (ag_iff hV hoff hi).2 ?_⟩
    rw [show y - d.spread + ((x - (y - d.spread)).toNat : Int) = x by omega]; exact h3

theorem lf_iff {d : RD} (hV : Valid d) {l : List Int} {off : List Bool} (hoff : ∀ q, q < d.tols.length → off.getD q false = hasB l (q : Int)) {lab sh : Int} {i : Nat} {y : Int} : lfB d l lab sh i y = true ↔ ∀ k, k < d.samples.length → lotOf d k = i → ∃ x, y - d.spread ≤ x ∧ x ≤ y + d.spread ∧ Agree d off lab sh k x := by
  unfold lfB
  rw [List.all_eq_true]
  constructor
  · intro h k hk e
    have := h k (List.mem_range.2 hk)
    have hs := hV.samples k hk
    simp only [Bool.or_eq_true, Bool.not_eq_true', decide_eq_false_iff_not] at this
    unfold lotOf at e
    rcases this with h1 | h1
    · omega
    · exact (near_iff hV hoff hk).1 h1
  · intro h k hk
    rw [List.mem_range] at hk
    have hs := hV.samples k hk
    simp only [Bool.or_eq_true, Bool.not_eq_true', decide_eq_false_iff_not]
    by_cases e : d.samples.getD k 0 = (i : Int)
    · exact .inr ((near_iff hV hoff hk).2 (h k hk (by unfold lotOf; omega)))
    · exact .inl e

theorem mem_lotVals {d : RD} {l : List Int} {lab sh : Int} {i : Nat} {y : Int} (hb : (d.lots.getD i (0, 0)).1 ≤ (d.lots.getD i (0, 0)).2) : y ∈ lotVals d l lab sh i ↔ ((d.lots.getD i (0, 0)).1 ≤ y ∧ y ≤ (d.lots.getD i (0, 0)).2) ∧ lfB d l lab sh i y = true := by
  unfold lotVals lotUpto
  rw [List.mem_filter, List.mem_map]
  refine and_congr_left fun _ => ?_
  constructor
  · rintro ⟨t, ht, rfl⟩; rw [List.mem_range] at ht; omega
  · intro h; exact ⟨(y - (d.lots.getD i (0, 0)).1).toNat, List.mem_range.2 (by omega), by omega⟩

theorem refOk_iff {d : RD} (hV : Valid d) {l : List Int} {off : List Bool} (hoff : ∀ q, q < d.tols.length → off.getD q false = hasB l (q : Int)) {lab sh : Int} : refOk d l lab sh = true ↔ ∃ L v, Truth d off lab sh L v := by
  unfold refOk canUpto
  rw [List.all_eq_true]
  constructor
  · intro h
    have h1 : ∀ i, i < d.lots.length → ∃ y, ((d.lots.getD i (0, 0)).1 ≤ y ∧ y ≤ (d.lots.getD i (0, 0)).2) ∧ ∀ k, k < d.samples.length → lotOf d k = i → ∃ x, y - d.spread ≤ x ∧ x ≤ y + d.spread ∧ Agree d off lab sh k x := fun i hi => by
      have := h i (List.mem_range.2 hi)
      rw [decide_eq_true_eq] at this
      obtain ⟨y, hy⟩ := List.exists_mem_of_length_pos this
      have hy2 := (mem_lotVals (hV.lots i hi).2.1).1 hy
      exact ⟨y, hy2.1, (lf_iff hV hoff).1 hy2.2⟩
    let L : Nat → Int := fun i => if hi : i < d.lots.length then Classical.choose (h1 i hi) else 0
    have hL : ∀ i (hi : i < d.lots.length), ((d.lots.getD i (0, 0)).1 ≤ L i ∧ L i ≤ (d.lots.getD i (0, 0)).2) ∧ ∀ k, k < d.samples.length → lotOf d k = i → ∃ x, L i - d.spread ≤ x ∧ x ≤ L i + d.spread ∧ Agree d off lab sh k x := fun i hi => by
      have := Classical.choose_spec (h1 i hi)
      have e : L i = Classical.choose (h1 i hi) := dif_pos hi
      rw [e]; exact this
    have hk : ∀ k, k < d.samples.length → lotOf d k < d.lots.length := fun k hk => by have := hV.samples k hk; unfold lotOf; omega
    have h2 : ∀ k, k < d.samples.length → ∃ x, L (lotOf d k) - d.spread ≤ x ∧ x ≤ L (lotOf d k) + d.spread ∧ Agree d off lab sh k x := fun k hk' => (hL _ (hk k hk')).2 k hk' rfl
    let v : Nat → Int := fun k => if h : k < d.samples.length then Classical.choose (h2 k h) else 0
    have hv : ∀ k, k < d.samples.length → L (lotOf d k) - d.spread ≤ v k ∧ v k ≤ L (lotOf d k) + d.spread ∧ Agree d off lab sh k (v k) := fun k hk' => by
      have e : v k = Classical.choose (h2 k hk') := dif_pos hk'
      rw [e]; exact Classical.choose_spec (h2 k hk')
    exact ⟨L, v, fun i hi => (hL i hi).1, fun k hk' => ⟨(hv k hk').1, (hv k hk').2.1⟩, fun k hk' => (hv k hk').2.2⟩
  · rintro ⟨L, v, hT⟩ i hi
    rw [List.mem_range] at hi
    rw [decide_eq_true_eq]
    refine List.length_pos_of_mem (a := L i) ((mem_lotVals (hV.lots i hi).2.1).2 ⟨hT.lots i hi, (lf_iff hV hoff).2 fun k hk e => ?_⟩)
    have := hT.near k hk
    rw [e] at this
    exact ⟨v k, this.1, this.2, hT.agree k hk⟩

theorem refOk_eq {d : RD} (hV : Valid d) {l : List Int} {off : List Bool} (hoff : ∀ q, q < d.tols.length → off.getD q false = hasB l (q : Int)) {lab sh : Int} : refOk d l lab sh = (spansF d off lab sh).2 := by
  rw [Bool.eq_iff_iff, refOk_iff hV hoff, ok_iff hV]
theorem refOk_rise {d : RD} (hV : Valid d) {l : List Int} (h : riseB d.tols.length l = true) : refOk d l (-1) 0 = explB d (offUpto l l.length) :=
  refOk_eq hV (fun q hq => off_has h (by have := hV.nb; omega))
theorem refOk_errs {d : RD} (hV : Valid d) {lab sh : Int} : refOk d [] lab sh = shOk d lab sh :=
  refOk_eq hV (fun q hq => by
    have hb := hV.nb
    unfold off0; rw [off6 (by omega)]; rfl)
/-! ### What Explains answers -/
theorem explainsF_bad {d : RD} {l : List Int} (h : checkR d ≠ 0) : explainsF d l = (false, checkR d) := by unfold explainsF; rw [if_neg h]
theorem explainsF_no {d : RD} {l : List Int} (h : checkR d = 0) (h2 : riseB d.tols.length l = false) : explainsF d l = (false, 2) := by unfold explainsF; rw [if_pos h, if_neg (by rw [h2]; simp)]
theorem explainsF_yes {d : RD} {l : List Int} (h : checkR d = 0) (h2 : riseB d.tols.length l = true) : explainsF d l = (explB d (offUpto l l.length), 0) := by unfold explainsF; rw [if_pos h, if_pos h2]
theorem fewB_thin {d : RD} (h : fewB d = true) : thinB d = true := by unfold fewB at h; rw [Bool.and_eq_true] at h; exact h.1
/-! ### What Shifts answers -/
theorem tmod_bd (a : Int) (m : Int) (hm : 0 < m) : -m < a.tmod m ∧ a.tmod m < m := by
  constructor
  · have := Int.lt_tmod_of_pos a hm; omega
  · exact Int.tmod_lt_of_pos a hm
theorem shiftsR_bad {d : RD} {lab : Int} (h : checkR d ≠ 0) : shiftsR d lab = ((0, 0), checkR d) := by unfold shiftsR; rw [if_neg h]
theorem shiftsR_out {d : RD} {lab : Int} (h : checkR d = 0) (h2 : (decide (0 ≤ lab) && decide (lab ≤ (d.tols.length : Int) - 1)) = false) : shiftsR d lab = ((0, 0), 2) := by unfold shiftsR; rw [if_pos h, if_neg (by rw [h2]; simp)]
theorem shiftsR_fail {d : RD} {lab : Int} (h : checkR d = 0) (h2 : (decide (0 ≤ lab) && decide (lab ≤ (d.tols.length : Int) - 1)) = true) (h3 : explB d (off0.set lab.toNat true) = false) : shiftsR d lab = ((0, 0), 9) := by unfold shiftsR; rw [if_pos h, if_pos h2, if_neg (by rw [h3]; simp)]
/-- Shifts finds none, or the two ends. -/
theorem shiftsR_cases {d : RD} {lab : Int} (h : checkR d = 0) (h2 : (decide (0 ≤ lab) && decide (lab ≤ (d.tols.length : Int) - 1)) = true) (h3 : explB d (off0.set lab.toNat true) = true) :
    (shiftsR d lab = ((0, 0), 7) ∧ ∀ s, -2000 ≤ s → s ≤ 2000 → shOk d lab s = false) ∨
    (∃ lo hi, shiftsR d lab = ((lo, hi), 0) ∧ -2000 ≤ lo ∧ lo ≤ hi ∧ hi ≤ 2000 ∧ ∀ s, -2000 ≤ s → s ≤ 2000 → shOk d lab s = (decide (lo ≤ s) && decide (s ≤ hi))) := by
  rcases shifts_spec (valid_of h) lab with ⟨e, hn⟩ | ⟨lo, hi, e, h4, h5, h6, h7⟩
  · refine .inl ⟨?_, hn⟩
    unfold shiftsR; rw [if_pos h, if_pos h2, if_pos h3, e]; decide
  · refine .inr ⟨lo, hi, ?_, h4, h5, h6, fun s a b => ?_⟩
    · unfold shiftsR
      rw [if_pos h, if_pos h2, if_pos h3, e]
      dsimp only
      rw [if_neg (by simp only [Bool.and_eq_true, decide_eq_true_eq]; omega)]
    · rw [Bool.eq_iff_iff, h7 s a b]; simp only [Bool.and_eq_true, decide_eq_true_eq]
theorem off_one (lab : Int) : offUpto [lab] [lab].length = off0.set lab.toNat true := rfl
theorem rise_one {nb : Nat} {lab : Int} (h : (decide (0 ≤ lab) && decide (lab ≤ (nb : Int) - 1)) = true) : riseB nb [lab] = true := by
  unfold riseB riseAt
  simp only [List.length_cons, List.length_nil]
  show (List.range 1).all _ = true
  simp only [List.range_succ, List.range_zero, List.nil_append, List.all_cons, List.all_nil, Bool.and_true, List.getD_cons_zero, decide_true, Bool.true_or]
  exact h
theorem refOk_one {d : RD} (hV : Valid d) {lab : Int} (h : (decide (0 ≤ lab) && decide (lab ≤ (d.tols.length : Int) - 1)) = true) : refOk d [lab] (-1) 0 = explB d (off0.set lab.toNat true) := by
  rw [refOk_rise hV (rise_one h), off_one]
/-! ### Laboratories by bits -/
theorem Truth.mono {d : RD} {off off' : List Bool} {lab sh : Int} {L v : Nat → Int} (h : Truth d off lab sh L v) (hm : ∀ q, q < d.tols.length → off.getD q false = true → off'.getD q false = true) : Truth d off' lab sh L v :=
  ⟨h.lots, h.near, fun k hk q hq ho hr => h.agree k hk q hq (by
    cases hc : off.getD q false with
    | false => rfl
    | true => rw [hm q hq hc] at ho; cases ho) hr⟩
theorem explB_iff {d : RD} (hV : Valid d) {off : List Bool} : explB d off = true ↔ ∃ L v, Truth d off (-1) 0 L v := ok_iff hV
theorem explB_mono {d : RD} (hV : Valid d) {off off' : List Bool} (hm : ∀ q, q < d.tols.length → off.getD q false = true → off'.getD q false = true) (h : explB d off = true) : explB d off' = true := by
  obtain ⟨L, v, hT⟩ := (explB_iff hV).1 h
  exact (explB_iff hV).2 ⟨L, v, hT.mono hm⟩
theorem explB_congr {d : RD} (hV : Valid d) {off off' : List Bool} (hm : ∀ q, q < d.tols.length → off.getD q false = off'.getD q false) : explB d off = explB d off' := by
  rw [Bool.eq_iff_iff]
  exact ⟨explB_mono hV (fun q hq h => by rw [← hm q hq]; exact h), explB_mono hV (fun q hq h => by rw [hm q hq]; exact h)⟩
def offB (n x : Nat) : List Bool := offUpto (chosenF n x) (chosenF n x).length
theorem rise_of {nb : Nat} {l : List Int} (h1 : ∀ x ∈ l, 0 ≤ x ∧ x ≤ (nb : Int) - 1) (h2 : l.Pairwise (· < ·)) : riseB nb l = true := by
  refine riseB_yes (fun i hi => ?_)
  have e : l.getD i 0 = l[i] := by simp [List.getD, hi]
  have hm := h1 l[i] (List.getElem_mem hi)
  refine rise_yes (by rw [e]; simp only [Bool.and_eq_true, decide_eq_true_eq]; exact hm) ?_
  by_cases h0 : i = 0
  · exact .inl h0
  · right
    rw [List.pairwise_iff_getElem] at h2
    have := h2 (i - 1) i (by omega) hi (by omega)
    have hi1 : i - 1 < l.length := by omega
    have e2 : l.getD (i - 1) 0 = l[i - 1] := by simp only [List.getD, List.getElem?_eq_getElem hi1, Option.getD_some]
    rw [e2, e]
    exact this
theorem chosen_rise (n x : Nat) : riseB n (chosenF n x) = true := by
  refine rise_of (fun y hy => ?_) ?_
  · obtain ⟨q, hq, _, rfl⟩ := mem_chosen.1 hy; omega
  · unfold chosenF
    rw [List.pairwise_map]
    exact (List.Pairwise.sublist List.filter_sublist List.pairwise_lt_range).imp (fun h => by omega)
theorem offB_get {n x q : Nat} (hn : n ≤ 6) (hq : q < n) : (offB n x).getD q false = bitB x q := by
  unfold offB
  rw [off_has (chosen_rise n x) (by omega), Bool.eq_iff_iff, hasB_iff, mem_chosen]
  constructor
  · rintro ⟨p, _, h, e⟩; rw [show q = p by omega]; exact h
  · intro h; exact ⟨q, hq, h, rfl⟩
theorem chosen_explains {d : RD} (hc : checkR d = 0) (x : Nat) : explainsF d (chosenF d.tols.length x) = (explB d (offB d.tols.length x), 0) := explainsF_yes hc (chosen_rise _ _)
theorem chosen_all {d : RD} (hc : checkR d = 0) : explainsF d (chosenF d.tols.length 255) = (true, 0) := by
  have hV := valid_of hc
  have hb := hV.nb
  rw [chosen_explains hc, expl_all hV (fun q hq => ?_)]
  rw [offB_get hb hq, bitB_eq]
  have : ∀ q : Nat, q < 8 → Nat.testBit 255 q = true := by decide
  exact this q (by omega)
theorem spansR_yes {d : RD} {l : List Int} (hc : checkR d = 0) (hr : riseB d.tols.length l = true) (hx : explB d (offUpto l l.length) = true) : spansR d l = ((spansF d (offUpto l l.length) (-1) 0).1, 0) := by
  unfold spansR; rw [if_pos hc, if_pos hr, if_pos (show (spansF d (offUpto l l.length) (-1) 0).2 = true from hx)]
theorem spansR_fail {d : RD} {l : List Int} (hc : checkR d = 0) (hr : riseB d.tols.length l = true) (hx : explB d (offUpto l l.length) = false) : spansR d l = ([], 9) := by
  unfold spansR; rw [if_pos hc, if_pos hr, if_neg (by unfold explB at hx; rw [hx]; simp)]
theorem spansR_no {d : RD} {l : List Int} (hc : checkR d = 0) (hr : riseB d.tols.length l = false) : spansR d l = ([], 2) := by
  unfold spansR; rw [if_pos hc, if_neg (by rw [hr]; simp)]
theorem spansR_bad {d : RD} {l : List Int} (hc : checkR d ≠ 0) : spansR d l = ([], checkR d) := by
  unfold spansR; rw [if_neg hc]
/-- A span's ends. -/
theorem span_ends {d : RD} (hV : Valid d) {off : List Bool} {lab sh : Int} (hok : (spansF d off lab sh).2 = true) {k : Nat} (hk : k < d.samples.length) : ((spansF d off lab sh).1.getD k (0, 0)).1 ≤ ((spansF d off lab sh).1.getD k (0, 0)).2 := by
  obtain ⟨L, v, hT⟩ := (ok_iff hV).1 hok
  have := (span_iff hV hok hk (v k)).2 ⟨L, v, hT, rfl⟩
  omega
theorem span_mono {d : RD} (hV : Valid d) {off off' : List Bool} (hm : ∀ q, q < d.tols.length → off.getD q false = true → off'.getD q false = true) (hok : explB d off = true) (hok' : explB d off' = true) {k : Nat} (hk : k < d.samples.length) :
    ((spansF d off' (-1) 0).1.getD k (0, 0)).1 ≤ ((spansF d off (-1) 0).1.getD k (0, 0)).1 ∧ ((spansF d off (-1) 0).1.getD k (0, 0)).2 ≤ ((spansF d off' (-1) 0).1.getD k (0, 0)).2 := by
  have he := span_ends hV hok hk
  have a := (span_iff hV hok hk ((spansF d off (-1) 0).1.getD k (0, 0)).1).1 ⟨Int.le_refl _, he⟩
  have b := (span_iff hV hok hk ((spansF d off (-1) 0).1.getD k (0, 0)).2).1 ⟨he, Int.le_refl _⟩
  obtain ⟨L, v, hT, e⟩ := a
  obtain ⟨L', v', hT', e'⟩ := b
  have c := (span_iff hV hok' hk _).2 ⟨L, v, hT.mono hm, e⟩
  have f := (span_iff hV hok' hk _).2 ⟨L', v', hT'.mono hm, e'⟩
  omega
/-! ### The reference's spans -/
theorem mem_cand {d : RD} (hV : Valid d) {l : List Int} {off : List Bool} (hoff : ∀ q, q < d.tols.length → off.getD q false = hasB l (q : Int)) {k : Nat} (hk : k < d.samples.length) (h0 : ∃ L v, Truth d off (-1) 0 L v) {x : Int} :
    x ∈ candUpto d l k (lotVals d l (-1) 0 (lotOf d k)) (lotVals d l (-1) 0 (lotOf d k)).length ↔ ∃ L v, Truth d off (-1) 0 L v ∧ v k = x := by
  have hsp := hV.spread
  have hs := hV.samples k hk
  have hlo : lotOf d k < d.lots.length := by unfold lotOf; omega
  have hlb := hV.lots _ hlo
  unfold candUpto
  rw [List.take_length, List.mem_flatMap]
  have inn : ∀ y, x ∈ candIn d l k y (2 * d.spread + 1).toNat ↔ (y - d.spread ≤ x ∧ x ≤ y + d.spread) ∧ Agree d off (-1) 0 k x := fun y => by
    unfold candIn
    rw [List.mem_filter, List.mem_map, ag_iff hV hoff hk]
    refine and_congr_left fun _ => ⟨?_, fun h => ⟨(x - (y - d.spread)).toNat, List.mem_range.2 (by omega), by omega⟩⟩
    rintro ⟨t, ht, rfl⟩
    rw [List.mem_range] at ht; omega
  constructor
  · rintro ⟨y, hy, hx⟩
    obtain ⟨hx1, hx2⟩ := (inn y).1 hx
    obtain ⟨hy1, hy2⟩ := (mem_lotVals hlb.2.1).1 hy
    have hlf := (lf_iff hV hoff).1 hy2
    obtain ⟨L0, v0, hT⟩ := h0
    have hch : ∀ j, ∃ z, (j < d.samples.length → lotOf d j = lotOf d k → y - d.spread ≤ z ∧ z ≤ y + d.spread ∧ Agree d off (-1) 0 j z) ∧ (j = k → z = x) := fun j => by
      by_cases e : j = k
      · subst e; exact ⟨x, fun _ _ => ⟨hx1.1, hx1.2, hx2⟩, fun _ => rfl⟩
      · by_cases hj : j < d.samples.length ∧ lotOf d j = lotOf d k
        · obtain ⟨z, h1, h2, h3⟩ := hlf j hj.1 hj.2
          exact ⟨z, fun _ _ => ⟨h1, h2, h3⟩, fun h => absurd h e⟩
        · exact ⟨0, fun a b => absurd ⟨a, b⟩ hj, fun h => absurd h e⟩
    let Z : Nat → Int := fun j => Classical.choose (hch j)
    have hZ := fun j => Classical.choose_spec (hch j)
    refine ⟨fun i => if i = lotOf d k then y else L0 i, fun j => if lotOf d j = lotOf d k then Z j else v0 j, ⟨fun i hi => ?_, fun j hj => ?_, fun j hj => ?_⟩, ?_⟩
    · by_cases e : i = lotOf d k
      · rw [if_pos e]; subst e; exact hy1
      · rw [if_neg e]; exact hT.lots i hi
    · by_cases e : lotOf d j = lotOf d k
      · rw [if_pos e, if_pos e]; exact ⟨((hZ j).1 hj e).1, ((hZ j).1 hj e).2.1⟩
      · rw [if_neg e, if_neg e]; exact hT.near j hj
    · by_cases e : lotOf d j = lotOf d k
      · rw [if_pos e]; exact ((hZ j).1 hj e).2.2
      · rw [if_neg e]; exact hT.agree j hj
    · show (if lotOf d k = lotOf d k then Z k else v0 k) = x
      rw [if_pos rfl]; exact (hZ k).2 rfl
  · rintro ⟨L, v, hT, rfl⟩
    have hn := hT.near k hk
    refine ⟨L (lotOf d k), (mem_lotVals hlb.2.1).2 ⟨hT.lots _ hlo, (lf_iff hV hoff).2 fun j hj e => ?_⟩, (inn _).2 ⟨hn, hT.agree k hk⟩⟩
    have := hT.near j hj
    rw [e] at this
    exact ⟨v j, this.1, this.2, hT.agree j hj⟩
theorem refSpan_eq {d : RD} (hV : Valid d) {l : List Int} (hr : riseB d.tols.length l = true) (hx : explB d (offUpto l l.length) = true) {k : Nat} (hk : k < d.samples.length) : refSpan d l k = (spansF d (offUpto l l.length) (-1) 0).1.getD k (0, 0) := by
  have hoff : ∀ q, q < d.tols.length → (offUpto l l.length).getD q false = hasB l (q : Int) := fun q hq => off_has hr (by have := hV.nb; omega)
  have h0 := (explB_iff hV).1 hx
  have he := span_ends hV hx hk
  have hin := span_iff hV hx hk
  have hmem := fun x => mem_cand hV hoff hk h0 (x := x)
  unfold refSpan foldS
  obtain ⟨f1, f2, f3, f4⟩ := foldS_spec (candUpto d l k (lotVals d l (-1) 0 (lotOf d k)) (lotVals d l (-1) 0 (lotOf d k)).length) (1073741824, -1073741824)
  generalize hc : candUpto d l k (lotVals d l (-1) 0 (lotOf d k)) (lotVals d l (-1) 0 (lotOf d k)).length = c at *
  have bd : ∀ x, x ∈ c → -2000 ≤ x ∧ x ≤ 2000 := fun x hx' => by
    obtain ⟨L, v, hT, rfl⟩ := (hmem x).1 hx'
    have hs := hV.samples k hk
    have hl := hT.lots (lotOf d k) (by unfold lotOf; omega)
    have hl2 := hV.lots (lotOf d k) (by unfold lotOf; omega)
    have hn := hT.near k hk
    have hsp := hV.spread
    omega
  have m1 := (hmem _).2 ((hin _).1 ⟨Int.le_refl _, he⟩)
  have m2 := (hmem _).2 ((hin _).1 ⟨he, Int.le_refl _⟩)
  have b1 := bd _ m1
  have b2 := bd _ m2
  have a1 := f1 _ m1
  have a2 := f1 _ m2
  have c1 : (c.foldl updP (1073741824, -1073741824)).1 ∈ c := by
    rcases f3 with h | h
    · exfalso; dsimp only at h; omega
    · exact h
  have c2 : (c.foldl updP (1073741824, -1073741824)).2 ∈ c := by
    rcases f4 with h | h
    · exfalso; dsimp only at h; omega
    · exact h
  have d1 := (hin _).2 ((hmem _).1 c1)
  have d2 := (hin _).2 ((hmem _).1 c2)
  apply Prod.ext <;> omega
end Go.Proofs.Ytfhmigoddaaljaa

namespace Go.Proofs.Ytfhmigoddaaljaa
open Go.RowKit Go.Eng

section
variable {d : RD} {ws vals : List Int} {x : Nat} {shift : Int}
theorem madeAt_bd (k i : Nat) : -1 ≤ madeAt d ws vals x shift k i ∧ madeAt d ws vals x shift k i ≤ 1000 := by
  unfold madeAt; simp only []
  split
  · omega
  · omega
theorem made_rds {q : Nat} (hq : q < d.tols.length) : (madeD d ws vals x shift).rds.getD q [] = madeRow d ws vals x shift q d.samples.length := by
  simp [madeD, List.getD, hq]
theorem made_rd {q i : Nat} (hq : q < d.tols.length) (hi : i < d.samples.length) : ((madeD d ws vals x shift).rds.getD q []).getD i 0 = madeAt d ws vals x shift q i := by
  rw [made_rds hq]; simp [madeRow, List.getD, hi]
theorem check_of {d : RD} (hV : Valid d) : checkR d = 0 := by
  have hnl := hV.nl; have hns := hV.ns; have hnb := hV.nb; have hsp := hV.spread
  refine checkR_0 (by omega) (by omega) (List.all_eq_true.2 fun i hi => ?_) (List.all_eq_true.2 fun i hi => ?_) ?_ (List.all_eq_true.2 fun i hi => ?_)
  · have := hV.lots i (List.mem_range.1 hi)
    simp only [lotB, Bool.and_eq_true, decide_eq_true_eq]; omega
  · have := hV.samples i (List.mem_range.1 hi)
    simp only [smpB, Bool.and_eq_true, decide_eq_true_eq]; omega
  · simp only [tolB, Bool.and_eq_true, decide_eq_true_eq]; omega
  · have h := List.mem_range.1 hi
    have h1 := hV.tols i h; have h2 := hV.rdl i h; have h3 := hV.rds i h
    simp only [labB, tolB, rdB, Bool.and_eq_true, decide_eq_true_eq, List.all_eq_true, List.mem_range]
    refine ⟨⟨h1, by omega⟩, fun j hj => h3 j (by omega)⟩
theorem made_valid (hV : Valid d) : Valid (madeD d ws vals x shift) := by
  refine ⟨hV.nl, hV.ns, hV.nb, hV.lots, hV.samples, hV.spread, hV.tols, fun i hi => ?_, fun i hi j hj => ?_⟩
  · rw [made_rds (d := d) hi, madeRow_len]; rfl
  · rw [made_rd (d := d) hi hj]; exact madeAt_bd i j
theorem made_check (hV : Valid d) : checkR (madeD d ws vals x shift) = 0 := check_of (made_valid hV)
theorem made_thin (hV : Valid d) : (madeD d ws vals x shift).lots.length ≤ 6 ∧ (madeD d ws vals x shift).samples.length ≤ 10 ∧ (madeD d ws vals x shift).tols.length ≤ 8 ∧ ∀ k, k < (madeD d ws vals x shift).tols.length → ((madeD d ws vals x shift).rds.getD k []).length ≤ 10 := by
  have h := made_valid (ws := ws) (vals := vals) (x := x) (shift := shift) hV
  have h1 := h.nl; have h2 := h.ns; have h3 := h.nb
  exact ⟨by omega, by omega, by omega, fun k hk => by have := h.rdl k hk; omega⟩
/-- What was made, is explained by what it was made from. -/
theorem made_truth (hV : Valid d) (hw : ∀ x ∈ ws, 0 ≤ x ∧ x ≤ 65535) {off : List Bool} {lab s : Int} (hb : ∀ q, q < d.tols.length → off.getD q false = false → (bitB x q = true → (q : Int) = lab ∧ s = shift) ∧ (bitB x q = false → (q : Int) ≠ lab)) :
    Truth (madeD d ws (trueF d ws d.samples.length) x shift) off lab s (lotAt d ws) (trueAt d ws) := by
  have hsp := hV.spread
  refine ⟨fun i hi => ?_, fun k hk => ?_, fun k hk q hq ho hr => ?_⟩
  · have hl := hV.lots i hi
    have h1 := tmod_nn (wordF_bd hw (i : Int)).1 (show 0 < (d.lots.getD i (0, 0)).2 - (d.lots.getD i (0, 0)).1 + 1 by omega)
    show (d.lots.getD i (0, 0)).1 ≤ lotAt d ws i ∧ lotAt d ws i ≤ (d.lots.getD i (0, 0)).2
    unfold lotAt; omega
  · have hs := hV.samples k hk
    have h2 := tmod_nn (wordF_bd hw (7 * (k : Int) + 3)).1 (show 0 < 2 * d.spread + 1 by omega)
    show lotAt d ws (d.samples.getD k 0).toNat - d.spread ≤ trueAt d ws k ∧ trueAt d ws k ≤ lotAt d ws (d.samples.getD k 0).toNat + d.spread
    have e : (((d.samples.getD k 0).toNat : Nat) : Int) = d.samples.getD k 0 := by omega
    unfold lotAt trueAt
    rw [e]; omega
  · have ht := hV.tols q hq
    have hbq := hb q hq ho
    have h2 := tmod_nn (wordF_bd hw (5 * (q : Int) + (k : Int))).1 (show 0 < 2 * d.tols.getD q 0 + 1 by omega)
    have e : rdv (madeD d ws (trueF d ws d.samples.length) x shift) q k = madeAt d ws (trueF d ws d.samples.length) x shift q k := made_rd hq hk
    rw [e] at hr ⊢
    show _ - d.tols.getD q 0 ≤ _ ∧ _ ≤ _ + d.tols.getD q 0
    have hv : (trueF d ws d.samples.length).getD k 0 = trueAt d ws k := trueF_at hk
    by_cases hneg : (d.rds.getD q []).getD k 0 < 0
    · exact absurd (made_no1 hneg) hr
    · by_cases hbit : ((x >>> q : Nat) : Int).tmod 2 = 1
      · obtain ⟨e1, e2⟩ := hbq.1 (decide_eq_true hbit)
        rw [made_b hbit hneg _ rfl] at hr ⊢
        rw [hv] at hr ⊢
        rw [if_pos e1, e2]
        split at hr
        · rename_i h; rw [if_pos h]; omega
        · exact absurd rfl hr
      · have e1 := hbq.2 (decide_eq_false hbit)
        rw [made_n hbit hneg _ rfl] at hr ⊢
        rw [hv] at hr ⊢
        rw [if_neg e1]
        split at hr
        · rename_i h; rw [if_pos h]; omega
        · exact absurd rfl hr
end
theorem bit_one {k q : Nat} : bitB (1 <<< k) q = decide (q = k) := by
  rw [bitB_eq, Nat.shiftLeft_eq, Nat.one_mul, Nat.testBit_two_pow, Bool.eq_iff_iff, decide_eq_true_eq, decide_eq_true_eq]
  exact eq_comm
/-! ### The fewest -/
theorem mem_fromL (d : RD) : ∀ (ys : List Int) (l : List Int) (off : List Bool) (next : Nat), (∀ y ∈ ys, (next : Int) ≤ y ∧ y ≤ (d.tols.length : Int) - 1) → ys.Pairwise (· < ·) → explB d (ys.foldl (fun bs n => bs.set n.toNat true) off) = true → l ++ ys ∈ fromL d ys.length l off next
  | [], l, off, next, _, _, h => by rw [List.length_nil, fromL, if_pos (show explB d off = true from h)]; simp
  | y :: ys, l, off, next, hb, hp, h => by
    rw [List.length_cons, fromL, List.mem_flatMap]
    have hy := hb y (List.mem_cons_self ..)
    have e : ((y.toNat : Nat) : Int) = y := by omega
    refine ⟨y.toNat, List.mem_range'_1.2 (by omega), ?_⟩
    rw [List.pairwise_cons] at hp
    have := mem_fromL d ys (l ++ [((y.toNat : Nat) : Int)]) (off.set y.toNat true) (y.toNat + 1) (fun z hz => by have h1 := hp.1 z hz; have h2 := hb z (List.mem_cons_of_mem _ hz); omega) hp.2 h
    rw [e] at this ⊢
    rwa [List.append_assoc] at this
theorem mem_from0 {d : RD} {ys : List Int} (hb : ∀ y ∈ ys, (0 : Int) ≤ y ∧ y ≤ (d.tols.length : Int) - 1) (hp : ys.Pairwise (· < ·)) (h : explB d (offUpto ys ys.length) = true) : ys ∈ fromL d ys.length [] off0 0 := by
  have h2 : offUpto ys ys.length = ys.foldl (fun bs n => bs.set n.toNat true) off0 := by unfold offUpto off0; rw [List.take_length]
  rw [h2] at h
  exact mem_fromL d ys [] off0 0 (fun y hy => by have := hb y hy; omega) hp h
/-- A list that explains is no shorter than the fewest, and one of them if it is as short. -/
theorem fewest_le {d : RD} {ys : List Int} (hl : ys.length ≤ d.tols.length) (h : ys ∈ fromL d ys.length [] off0 0) : ((fewestF d).getD 0 []).length ≤ ys.length ∧ (((fewestF d).getD 0 []).length = ys.length → ys ∈ fewestF d) := by
  by_cases he : fewUpto d ys.length = []
  · have hs := fewUpto_step d he
    have hne : fewUpto d (ys.length + 1) ≠ [] := by rw [hs]; exact List.ne_nil_of_mem h
    have hf : fewestF d = fromL d ys.length [] off0 0 := by rw [← hs]; exact (fewest_is d (.inr ⟨by omega, hne⟩)).symm
    rw [hf]
    refine ⟨?_, fun _ => h⟩
    cases hc : fromL d ys.length [] off0 0 with
    | nil => simp
    | cons a t =>
      have := fromL_each d ys.length [] off0 0 a (by rw [hc]; exact List.mem_cons_self ..)
      simp only [List.length_nil] at this
      show a.length ≤ _; omega
  · have hf := fewest_is d (k := ys.length) (.inr ⟨by omega, he⟩)
    rw [← hf]
    cases hc : fewUpto d ys.length with
    | nil => exact absurd hc he
    | cons a t =>
      have := fewUpto_each d ys.length a (by rw [hc]; exact List.mem_cons_self ..)
      refine ⟨by show a.length ≤ _; omega, fun e => ?_⟩
      have e' : a.length = ys.length := e
      omega
theorem conv_in {d : RD} {ys : List Int} (h : ys ∈ fewestF d) {k : Int} (hk : k ∈ convF d) : hasB ys k = true := by
  unfold convF at hk
  rw [List.mem_filter] at hk
  have h2 := List.all_eq_true.1 hk.2
  obtain ⟨i, hi, e⟩ := List.getElem_of_mem h
  have := h2 i (List.mem_range.2 hi)
  rw [show (fewestF d).getD i [] = ys by simp [List.getD, hi, e]] at this
  exact this
theorem leastR_yes {d : RD} (hc : checkR d = 0) : leastR d = ((fewestF d).getD 0 [], 0) := by unfold leastR; rw [if_pos hc]
theorem convR_yes {d : RD} (hc : checkR d = 0) : ∃ C cc, convR d = (C, cc) ∧ (cc = 0 ∨ cc = 7) ∧ C.length ≤ 6 ∧ ∀ k ∈ C, k ∈ convF d := by
  have h6 : (convF d).length ≤ 6 := Nat.le_trans (List.length_filter_le _ _) (fewest_each (valid_of hc) 0)
  unfold convR; rw [if_pos hc]
  by_cases h : (convF d).length = 0
  · rw [if_pos h]; exact ⟨[], 7, rfl, .inr rfl, by simp, by simp⟩
  · rw [if_neg h]; exact ⟨_, 0, rfl, .inl rfl, h6, fun _ h => h⟩
/-- No shift at all: the laboratory is as any. -/
theorem shOk_zero {d : RD} (hV : Valid d) {lab : Int} : shOk d lab 0 = explB d off0 := by
  rw [Bool.eq_iff_iff, shOk_iff hV, explB_iff hV]
  have key : ∀ {a b : Int} {L v : Nat → Int}, Truth d off0 a 0 L v → Truth d off0 b 0 L v := fun h => ⟨h.lots, h.near, fun k hk q hq ho hr => by
    have := h.agree k hk q hq ho hr
    simpa using this⟩
  exact ⟨fun ⟨L, v, h⟩ => ⟨L, v, key h⟩, fun ⟨L, v, h⟩ => ⟨L, v, key h⟩⟩
theorem off0_get (q : Nat) : off0.getD q false = false := by
  unfold off0
  simp only [List.getD, List.getElem?_replicate]
  split <;> rfl
theorem explB_off0 {d : RD} (hV : Valid d) {k : Nat} (h : explB d (off0.set k true) = false) : explB d off0 = false := by
  rcases Bool.eq_false_or_eq_true (explB d off0) with e | e
  · rw [explB_mono hV (fun q _ h => by rw [off0_get] at h; cases h) e] at h; cases h
  · exact e
theorem explains_nil {d : RD} (hc : checkR d = 0) : explainsF d [] = (explB d off0, 0) := explainsF_yes hc rfl
/-- A shift that was made, is found. -/
theorem made_shifts {d : RD} (hc : checkR d = 0) {ws : List Int} (hw : ∀ x ∈ ws, 0 ≤ x ∧ x ≤ 65535) {k : Nat} (hk : k < d.tols.length) {shift : Int} (hs : -2000 ≤ shift ∧ shift ≤ 2000) :
    ∃ lo hi, shiftsR (madeD d ws (trueF d ws d.samples.length) (1 * 2 ^ k) shift) (k : Int) = ((lo, hi), 0) ∧ lo ≤ shift ∧ shift ≤ hi := by
  have hV := valid_of hc
  have hb : ∀ q, bitB (1 * 2 ^ k) q = decide (q = k) := fun q => by
    rw [bitB_eq, Nat.one_mul, Nat.testBit_two_pow, Bool.eq_iff_iff, decide_eq_true_eq, decide_eq_true_eq]; exact eq_comm
  have hV2 : Valid (madeD d ws (trueF d ws d.samples.length) (1 * 2 ^ k) shift) := made_valid hV
  have hnb := hV.nb
  have t1 : shOk (madeD d ws (trueF d ws d.samples.length) (1 * 2 ^ k) shift) (k : Int) shift = true := (shOk_iff hV2).2 ⟨_, _, made_truth hV hw (fun q hq _ => by
    rw [hb]; refine ⟨fun h => ?_, fun h => ?_⟩
    · have := of_decide_eq_true h; exact ⟨by omega, rfl⟩
    · have := of_decide_eq_false h; omega)⟩
  have t2 : explB (madeD d ws (trueF d ws d.samples.length) (1 * 2 ^ k) shift) (off0.set k true) = true := (explB_iff hV2).2 ⟨_, _, made_truth hV hw (fun q hq ho => by
    rw [hb]
    have hne : q ≠ k := fun e => by
      subst e
      rw [getD_setB, if_pos ⟨rfl, by simp [off0]; omega⟩] at ho; cases ho
    refine ⟨fun h => absurd (of_decide_eq_true h) hne, fun _ => by omega⟩)⟩
  rcases shiftsR_cases (made_check hV) (lab := (k : Int)) (by simp only [Bool.and_eq_true, decide_eq_true_eq]; exact ⟨by omega, by show (k : Int) ≤ (d.tols.length : Int) - 1; omega⟩) (show explB (madeD d ws (trueF d ws d.samples.length) (1 * 2 ^ k) shift) (off0.set ((k : Int)).toNat true) = true by rw [Int.toNat_natCast]; exact t2) with ⟨_, hn⟩ | ⟨lo, hi, e, _, _, _, hn⟩
  · rw [hn shift hs.1 hs.2] at t1; cases t1
  · rw [hn shift hs.1 hs.2] at t1
    simp only [Bool.and_eq_true, decide_eq_true_eq] at t1
    exact ⟨lo, hi, e, t1.1, t1.2⟩
theorem convF_len (d : RD) : (convF d).length ≤ ((fewestF d).getD 0 []).length := List.length_filter_le _ _
theorem chosen_pair (n x : Nat) : (chosenF n x).Pairwise (· < ·) := by
  unfold chosenF
  rw [List.pairwise_map]
  exact (List.Pairwise.sublist List.filter_sublist List.pairwise_lt_range).imp (fun h => by omega)
/-- All that a made round answers when those who were moved are set aside. -/
theorem made_off {d : RD} (hV : Valid d) {ws : List Int} (hw : ∀ x ∈ ws, 0 ≤ x ∧ x ≤ 65535) {x : Nat} {shift : Int} : Truth (madeD d ws (trueF d ws d.samples.length) x shift) (offB d.tols.length x) (-1) 0 (lotAt d ws) (trueAt d ws) :=
  made_truth hV hw (fun q hq ho => by
    rw [offB_get hV.nb hq] at ho
    refine ⟨fun h => ?_, fun _ => by omega⟩
    rw [ho] at h; cases h)
end Go.Proofs.Ytfhmigoddaaljaa

namespace Go.Proofs.Ytfhmigoddaaljaa
open Go.RowKit Go.Eng

def movAt (d : RD) (n : Int) (k i : Nat) : Int := if 0 ≤ (d.rds.getD k []).getD i 0 then (d.rds.getD k []).getD i 0 + n else (d.rds.getD k []).getD i 0
def movRow (d : RD) (n : Int) (k i : Nat) : List Int := (List.range i).map (movAt d n k)
def movLots (d : RD) (n : Int) (k : Nat) : List (Int × Int) := (List.range k).map fun i => ((d.lots.getD i (0, 0)).1 + n, (d.lots.getD i (0, 0)).2 + n)
def movedD (d : RD) (n : Int) : RD := { d with lots := movLots d n d.lots.length, rds := (List.range d.tols.length).map fun k => movRow d n k d.samples.length }
section
variable {d : RD} {n : Int}
theorem movRow_succ (d : RD) (n : Int) (k i : Nat) : movRow d n k (i + 1) = movRow d n k i ++ [movAt d n k i] := map_range_succ _ _
theorem movRow_len (d : RD) (n : Int) (k i : Nat) : (movRow d n k i).length = i := by simp [movRow]
theorem movLots_succ (d : RD) (n : Int) (k : Nat) : movLots d n (k + 1) = movLots d n k ++ [((d.lots.getD k (0, 0)).1 + n, (d.lots.getD k (0, 0)).2 + n)] := map_range_succ _ _
theorem movLots_len (d : RD) (n : Int) (k : Nat) : (movLots d n k).length = k := by simp [movLots]
theorem mov_yes {k i : Nat} (h : 0 ≤ (d.rds.getD k []).getD i 0) : movAt d n k i = (d.rds.getD k []).getD i 0 + n := by unfold movAt; rw [if_pos h]
theorem mov_no {k i : Nat} (h : ¬ 0 ≤ (d.rds.getD k []).getD i 0) : movAt d n k i = (d.rds.getD k []).getD i 0 := by unfold movAt; rw [if_neg h]
theorem moved_lots {i : Nat} (h : i < d.lots.length) : (movedD d n).lots.getD i (0, 0) = ((d.lots.getD i (0, 0)).1 + n, (d.lots.getD i (0, 0)).2 + n) := by
  simp [movedD, movLots, List.getD, h]
theorem moved_len : (movedD d n).lots.length = d.lots.length := movLots_len ..
theorem moved_rds {q : Nat} (hq : q < d.tols.length) : (movedD d n).rds.getD q [] = movRow d n q d.samples.length := by
  simp [movedD, List.getD, hq]
theorem moved_rd {q i : Nat} (hq : q < d.tols.length) (hi : i < d.samples.length) : rdv (movedD d n) q i = movAt d n q i := by
  unfold rdv; rw [moved_rds hq]; simp [movRow, List.getD, hi]
theorem moved_rdl : (movedD d n).rds.length = d.tols.length := by simp [movedD]
theorem moved_thin (hV : Valid d) : (movedD d n).lots.length ≤ 6 ∧ (movedD d n).samples.length ≤ 10 ∧ (movedD d n).tols.length ≤ 8 ∧ ∀ k, k < (movedD d n).tols.length → ((movedD d n).rds.getD k []).length ≤ 10 := by
  have h1 := hV.nl; have h2 := hV.ns; have h3 := hV.nb
  refine ⟨by rw [moved_len]; omega, show d.samples.length ≤ 10 by omega, show d.tols.length ≤ 8 by omega, fun k hk => ?_⟩
  rw [moved_rds (d := d) hk, movRow_len]; omega
theorem moved_truth (hV : Valid d) (hn : 0 ≤ n) {off : List Bool} {lab s : Int} {L v : Nat → Int} : Truth (movedD d n) off lab s L v ↔ Truth d off lab s (fun i => L i - n) (fun k => v k - n) := by
  have rd : ∀ k, k < d.samples.length → ∀ q, q < d.tols.length → (rdv (movedD d n) q k = -1 ↔ rdv d q k = -1) ∧ (rdv d q k ≠ -1 → rdv (movedD d n) q k = rdv d q k + n) := fun k hk q hq => by
    have hr : -1 ≤ rdv d q k := (hV.rds q hq k hk).1
    rw [moved_rd hq hk]
    have e : movAt d n q k = if 0 ≤ rdv d q k then rdv d q k + n else rdv d q k := rfl
    rw [e]; split <;> omega
  constructor
  · intro h
    refine ⟨fun i hi => ?_, fun k hk => ?_, fun k hk q hq ho hr => ?_⟩
    · have := h.lots i (by rw [moved_len]; exact hi)
      rw [moved_lots hi] at this; dsimp only at this ⊢; omega
    · have : L (lotOf d k) - d.spread ≤ v k ∧ v k ≤ L (lotOf d k) + d.spread := h.near k hk
      omega
    · obtain ⟨r1, r2⟩ := rd k hk q hq
      have : rdv (movedD d n) q k - (if (q : Int) = lab then s else 0) - d.tols.getD q 0 ≤ v k ∧ v k ≤ rdv (movedD d n) q k - (if (q : Int) = lab then s else 0) + d.tols.getD q 0 := h.agree k hk q hq ho (fun e => hr (r1.1 e))
      rw [r2 hr] at this
      omega
  · intro h
    refine ⟨fun i hi => ?_, fun k hk => ?_, fun k hk q hq ho hr => ?_⟩
    · rw [moved_len] at hi
      have := h.lots i hi
      rw [moved_lots hi]; dsimp only at this ⊢; omega
    · have := h.near k hk
      skip
      show L (lotOf d k) - d.spread ≤ v k ∧ v k ≤ L (lotOf d k) + d.spread
      omega
    · obtain ⟨r1, r2⟩ := rd k hk q hq
      have hr' : rdv d q k ≠ -1 := fun e => hr (r1.2 e)
      have := h.agree k hk q hq ho hr'
      show rdv (movedD d n) q k - (if (q : Int) = lab then s else 0) - d.tols.getD q 0 ≤ v k ∧ v k ≤ rdv (movedD d n) q k - (if (q : Int) = lab then s else 0) + d.tols.getD q 0
      rw [r2 hr']
      omega
theorem moved_some (hV : Valid d) (hn : 0 ≤ n) {off : List Bool} {lab s : Int} {k : Nat} {x : Int} : (∃ L v, Truth (movedD d n) off lab s L v ∧ v k = x) ↔ ∃ L v, Truth d off lab s L v ∧ v k = x - n := by
  constructor
  · rintro ⟨L, v, h, rfl⟩; exact ⟨_, _, (moved_truth hV hn).1 h, rfl⟩
  · rintro ⟨L, v, h, e⟩
    refine ⟨fun i => L i + n, fun i => v i + n, (moved_truth hV hn).2 ?_, by dsimp only; omega⟩
    have e1 : (fun i => L i + n - n) = L := funext fun i => by omega
    have e2 : (fun i => v i + n - n) = v := funext fun i => by omega
    rw [e1, e2]; exact h
theorem moved_ok (hV : Valid d) (hM : Valid (movedD d n)) (hn : 0 ≤ n) {off : List Bool} {lab s : Int} : (spansF (movedD d n) off lab s).2 = (spansF d off lab s).2 := by
  rw [Bool.eq_iff_iff, ok_iff hM, ok_iff hV]
  constructor
  · rintro ⟨L, v, h⟩; exact ⟨_, _, (moved_truth hV hn).1 h⟩
  · rintro ⟨L, v, h⟩
    obtain ⟨L', v', h', _⟩ := (moved_some hV hn (k := 0) (x := v 0 + n)).2 ⟨L, v, h, by omega⟩
    exact ⟨L', v', h'⟩
theorem moved_span (hV : Valid d) (hM : Valid (movedD d n)) (hn : 0 ≤ n) {off : List Bool} (hok : explB d off = true) {k : Nat} (hk : k < d.samples.length) :
    ((spansF (movedD d n) off (-1) 0).1.getD k (0, 0)).1 = ((spansF d off (-1) 0).1.getD k (0, 0)).1 + n ∧ ((spansF (movedD d n) off (-1) 0).1.getD k (0, 0)).2 = ((spansF d off (-1) 0).1.getD k (0, 0)).2 + n := by
  have hokM : (spansF (movedD d n) off (-1) 0).2 = true := (moved_ok hV hM hn).trans hok
  have e1 := span_ends hV hok hk
  have e2 := span_ends hM hokM (k := k) hk
  have key : ∀ x, (((spansF (movedD d n) off (-1) 0).1.getD k (0, 0)).1 ≤ x ∧ x ≤ ((spansF (movedD d n) off (-1) 0).1.getD k (0, 0)).2) ↔ (((spansF d off (-1) 0).1.getD k (0, 0)).1 ≤ x - n ∧ x - n ≤ ((spansF d off (-1) 0).1.getD k (0, 0)).2) := fun x => by
    rw [span_iff hM hokM (k := k) hk, span_iff hV hok hk, moved_some hV hn]
  have a := (key ((spansF (movedD d n) off (-1) 0).1.getD k (0, 0)).1).1 ⟨Int.le_refl _, e2⟩
  have b := (key ((spansF (movedD d n) off (-1) 0).1.getD k (0, 0)).2).1 ⟨e2, Int.le_refl _⟩
  have c := (key (((spansF d off (-1) 0).1.getD k (0, 0)).1 + n)).2 (by omega)
  have f := (key (((spansF d off (-1) 0).1.getD k (0, 0)).2 + n)).2 (by omega)
  omega
theorem span_bd (hV : Valid d) {off : List Bool} (hok : explB d off = true) {k : Nat} (hk : k < d.samples.length) : -100 ≤ ((spansF d off (-1) 0).1.getD k (0, 0)).1 ∧ ((spansF d off (-1) 0).1.getD k (0, 0)).2 ≤ 1100 ∧ ((spansF d off (-1) 0).1.getD k (0, 0)).1 ≤ ((spansF d off (-1) 0).1.getD k (0, 0)).2 := by
  have e1 := span_ends hV hok hk
  have bd : ∀ x, (∃ L v, Truth d off (-1) 0 L v ∧ v k = x) → -100 ≤ x ∧ x ≤ 1100 := by
    rintro x ⟨L, v, h, rfl⟩
    have hs := hV.samples k hk
    have hl : lotOf d k < d.lots.length := by unfold lotOf; omega
    have := h.lots _ hl; have := hV.lots _ hl; have := h.near k hk; have := hV.spread
    omega
  have a := bd _ ((span_iff hV hok hk _).1 ⟨Int.le_refl _, e1⟩)
  have b := bd _ ((span_iff hV hok hk _).1 ⟨e1, Int.le_refl _⟩)
  omega
theorem moved_shUpto (hV : Valid d) (hM : Valid (movedD d n)) (hn : 0 ≤ n) (lab : Int) : ∀ k, shUpto (movedD d n) lab k = shUpto d lab k
  | 0 => rfl
  | k + 1 => by
    have e : shOk (movedD d n) lab ((k : Int) - 2000) = shOk d lab ((k : Int) - 2000) := moved_ok hV hM hn
    simp only [shUpto]; rw [e, moved_shUpto hV hM hn lab k]
theorem moved_shifts (hc : checkR d = 0) (hcM : checkR (movedD d n) = 0) (hn : 0 ≤ n) (lab : Int) : shiftsR (movedD d n) lab = shiftsR d lab := by
  have hV := valid_of hc; have hM := valid_of hcM
  have e : explB (movedD d n) (off0.set lab.toNat true) = explB d (off0.set lab.toNat true) := moved_ok hV hM hn
  unfold shiftsR
  rw [if_pos hc, if_pos hcM, e, moved_shUpto hV hM hn]
  rfl
end
end Go.Proofs.Ytfhmigoddaaljaa
