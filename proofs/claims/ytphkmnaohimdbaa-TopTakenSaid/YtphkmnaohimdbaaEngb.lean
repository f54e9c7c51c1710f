/-
  The engine, part AG: words of 64 bits: and, or, xor, shifts.
  The engine, part Y: appends onto an empty slice that was just built (its capacity is 0): always new memory, or nothing is done.
-/
import Derived.Test.YtphkmnaohimdbaaEnga
set_option linter.unusedSimpArgs false
set_option linter.unusedVariables false
namespace Go.Eng
open Go.RowKit
theorem r_5 {k : Nat} (h : k ≤ 63) : 2 ^ k < 18446744073709551616 := Nat.lt_of_le_of_lt (Nat.pow_le_pow_right (by decide) h) (by decide)
theorem bv64 {n : Nat} (h : n < 18446744073709551616) : (BitVec.ofInt 64 (n : Int)).toNat = n := by
  rw [BitVec.ofInt_natCast, BitVec.toNat_ofNat, Nat.mod_eq_of_lt (by omega)]
theorem or64_lt {m n : Nat} (hm : m < 18446744073709551616) (hn : n < 18446744073709551616) : m ||| n < 18446744073709551616 := Nat.or_lt_two_pow (n := 64) hm hn
theorem xor64_lt {m n : Nat} (hm : m < 18446744073709551616) (hn : n < 18446744073709551616) : m ^^^ n < 18446744073709551616 := Nat.xor_lt_two_pow (n := 64) hm hn
theorem i_5 {m n : Nat} (hm : m < 18446744073709551616) : m &&& n < 18446744073709551616 := Nat.lt_of_le_of_lt Nat.and_le_left hm
section
variable {r : Option Nat} {P : Program} {o : Oper} {a : Act} {w : World}
theorem op_or64 {t t' : TypeId} {x y : Operand} {m n : Nat} (ho : o.op = .binOp .or t x y t') (hx : a.eval x = .int .u64 (m : Int)) (hy : a.eval y = .int .u64 (n : Int)) (hm : m < 18446744073709551616) (hn : n < 18446744073709551616) : OpY r P o a w (fun v' w' => v' = .int .u64 ((m ||| n : Nat) : Int) ∧ w' = w) :=
  c_8 (v := .int .u64 ((m ||| n : Nat) : Int)) (by rw [ho]; rfl) (by
    have e1 : (eqGuard .or t x y (.int .u64 (m : Int)) (.int .u64 (n : Int))).run P w = .ok () w := f_3 _ _ _ _ _ _ _ _ _
    have hlt := or64_lt hm hn
    have h2 : IntKind.u64.wrap ((BitVec.ofInt IntKind.u64.bits (m : Int) ||| BitVec.ofInt IntKind.u64.bits (n : Int)).toNat : Int) = ((m ||| n : Nat) : Int) := by
      show IntKind.u64.wrap ((BitVec.ofInt 64 (m : Int) ||| BitVec.ofInt 64 (n : Int)).toNat : Int) = _
      rw [BitVec.toNat_or, bv64 hm, bv64 hn]
      exact wrap_u64 (by omega) (by omega)
    simp only [execOp, ho, hx, hy, Sem.run_bind, e1, Result.andThen_ok, binOp, Op.intBits, Sem.run_pure, h2]
    rfl) ⟨rfl, rfl⟩
theorem op_and64 {t t' : TypeId} {x y : Operand} {m n : Nat} (ho : o.op = .binOp .and t x y t') (hx : a.eval x = .int .u64 (m : Int)) (hy : a.eval y = .int .u64 (n : Int)) (hm : m < 18446744073709551616) (hn : n < 18446744073709551616) : OpY r P o a w (fun v' w' => v' = .int .u64 ((m &&& n : Nat) : Int) ∧ w' = w) :=
  c_8 (v := .int .u64 ((m &&& n : Nat) : Int)) (by rw [ho]; rfl) (by
    have e1 : (eqGuard .and t x y (.int .u64 (m : Int)) (.int .u64 (n : Int))).run P w = .ok () w := f_3 _ _ _ _ _ _ _ _ _
    have hlt := i_5 (n := n) hm
    have h2 : IntKind.u64.wrap ((BitVec.ofInt IntKind.u64.bits (m : Int) &&& BitVec.ofInt IntKind.u64.bits (n : Int)).toNat : Int) = ((m &&& n : Nat) : Int) := by
      show IntKind.u64.wrap ((BitVec.ofInt 64 (m : Int) &&& BitVec.ofInt 64 (n : Int)).toNat : Int) = _
      rw [BitVec.toNat_and, bv64 hm, bv64 hn]
      exact wrap_u64 (by omega) (by omega)
    simp only [execOp, ho, hx, hy, Sem.run_bind, e1, Result.andThen_ok, binOp, Op.intBits, Sem.run_pure, h2]
    rfl) ⟨rfl, rfl⟩
theorem op_xor64 {t t' : TypeId} {x y : Operand} {m n : Nat} (ho : o.op = .binOp .xor t x y t') (hx : a.eval x = .int .u64 (m : Int)) (hy : a.eval y = .int .u64 (n : Int)) (hm : m < 18446744073709551616) (hn : n < 18446744073709551616) : OpY r P o a w (fun v' w' => v' = .int .u64 ((m ^^^ n : Nat) : Int) ∧ w' = w) :=
  c_8 (v := .int .u64 ((m ^^^ n : Nat) : Int)) (by rw [ho]; rfl) (by
    have e1 : (eqGuard .xor t x y (.int .u64 (m : Int)) (.int .u64 (n : Int))).run P w = .ok () w := f_3 _ _ _ _ _ _ _ _ _
    have hlt := xor64_lt hm hn
    have h2 : IntKind.u64.wrap ((BitVec.ofInt IntKind.u64.bits (m : Int) ^^^ BitVec.ofInt IntKind.u64.bits (n : Int)).toNat : Int) = ((m ^^^ n : Nat) : Int) := by
      show IntKind.u64.wrap ((BitVec.ofInt 64 (m : Int) ^^^ BitVec.ofInt 64 (n : Int)).toNat : Int) = _
      rw [BitVec.toNat_xor, bv64 hm, bv64 hn]
      exact wrap_u64 (by omega) (by omega)
    simp only [execOp, ho, hx, hy, Sem.run_bind, e1, Result.andThen_ok, binOp, Op.intBits, Sem.run_pure, h2]
    rfl) ⟨rfl, rfl⟩
theorem op_shl64 {t t' : TypeId} {kd : IntKind} {x y : Operand} {k : Nat} (ho : o.op = .binOp .shl t x y t') (hx : a.eval x = .int .u64 1) (hy : a.eval y = .int kd (k : Int)) (hk : k ≤ 63) : OpY r P o a w (fun v' w' => v' = .int .u64 ((2 ^ k : Nat) : Int) ∧ w' = w) :=
  c_8 (v := .int .u64 ((2 ^ k : Nat) : Int)) (by rw [ho]; rfl) (by
    have h1 : ¬ ((k : Int) < 0) := by omega
    have h2 : min k 64 = k := by omega
    have h3 : IntKind.u64.wrap ((1 : Int) * 2 ^ k) = ((2 ^ k : Nat) : Int) := by
      have e : (1 : Int) * 2 ^ k = ((2 ^ k : Nat) : Int) := by simp
      rw [e]
      have := r_5 hk
      exact wrap_u64 (Int.natCast_nonneg _) (by omega)
    have e1 : (eqGuard .shl t x y (.int .u64 (1 : Int)) (.int kd (k : Int))).run P w = .ok () w := f_3 _ _ _ _ _ _ _ _ _
    simp only [execOp, ho, hx, hy, Sem.run_bind, e1, Result.andThen_ok, binOp, Op.shift, h1, if_false, IntKind.bits, Int.toNat_natCast, h2, h3, Sem.run_pure]) ⟨rfl, rfl⟩
end
theorem bit_ne {X k : Nat} : (!decide (((X &&& 2 ^ k : Nat) : Int) = 0)) = X.testBit k := by
  have h : X &&& 2 ^ k = if X.testBit k then 2 ^ k else 0 := by
    apply Nat.eq_of_testBit_eq
    intro i
    rw [Nat.testBit_and, Nat.testBit_two_pow]
    by_cases e : k = i
    · subst e
      cases X.testBit k <;> simp [Nat.testBit_two_pow]
    · cases X.testBit k <;> simp [Nat.testBit_two_pow, e]
  rw [h]
  have := Nat.two_pow_pos k
  cases X.testBit k
  · simp
  · rw [if_pos rfl]
    simp only [Bool.not_eq_true', decide_eq_false_iff_not]
    omega
end Go.Eng

namespace Go.Eng
section
variable {r : Option Nat} {P : Program} {o : Oper} {a : Act} {w w0 : World} {X : Nat → Prop} {L : List Res} {y : List Res → Value → Prop}
theorem vblz {t e : TypeId} {sz : Nat} {g : Bool} {parts : Array (Nat × Operand)} {ps : Array (Nat × Value)} {z : Value}
    (ho : o.op = .buildSlice t 0 parts) (hp : (parts.map fun (i, x) => (i, a.eval x)) = ps) (ht : P.underlying t = some (.slice e)) (he : tyK P e = some (g, sz)) (hz : (P.info? e).bind (·.zero) = some z)
    (hf : Instr.fill (fun i => some (i * sz, sz)) ((Array.range (0 * sz)).map (z.cells[· % z.cells.size]!)) ps.toList = some ([] : List Value).toArray) (hy : ∀ b, y [blk b e []] (.slice (some ⟨b, 0, none⟩) 0 0)) :
    OpY r P o a w (fun v w'' => Ext NoB w w'' ∧ ∃ rs, y rs v ∧ Sep NoB w w'' rs ∧ rs.all (·.own) = true) :=
  vn (c_7 (X := NoB) (w0 := w) (L := []) (Sep.start _ _) ho hp ht he hz (by omega) hf) fun v w' ⟨b, h1, h2⟩ => by
    subst h1
    exact ⟨_, hy b, h2, rfl⟩
end
end Go.Eng
