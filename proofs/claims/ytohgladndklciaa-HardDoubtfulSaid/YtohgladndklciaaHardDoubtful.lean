/-
  HardDoubtfulSaid: the law HardDoubtful returns true for every input, and leaves its arguments as they were. No condition is asked beyond those of the row.
-/
import Derived.Test.YtohgladndklciaaRead
import Derived.Test.YtohgladndklciaaLHardDoubtful
set_option linter.unusedSimpArgs false
set_option linter.unusedVariables false
namespace Go.Proofs.Ytohgladndklciaa
open Go.RowKit Go.Shelf Go.Eng Go.Hard Go.ChangeShapes Go.WideShapes Go.ChangeAt Go.Joins Go.Deep
set_option maxHeartbeats 4000000 in
set_option maxRecDepth 100000 in
theorem hardDoubtful_lifted (os : Os) (started : os.Started) (H : Type) (enc : TypeId × Value → H) :
    ReturnsInHanded {} Try.checked os 13 .any (Rows.hardDoubtfulSpec.pre6 enc Try.prog Try.f13 Rows.hardDoubtfulRow.domain false) (Rows.hardDoubtfulSpec.post enc Try.prog Try.f13 false true false false) := by
  refine returnsInHanded_of_change (C := Try.checked) Try.own started (by kernel_rfl) Try.func13
    (ChangeSpec.witness6 (enc := enc) (C := Try.checked) false ⟨#[], #[.agg #[.int .i64 0, .slice none 0 0, .slice none 0 0], .slice none 0 0, .slice none 0 0], []⟩ 8 (by kernel_rfl) (by kernel_rfl) (by kernel_rfl) (by kernel_rfl)) ?_
  intro W base args ds gs before hval0 hW hcnd _
  have hval : ∀ (j : Nat) t v, Try.f13.params[j]? = some t → args[j]? = some v → Value.okWide Try.prog W .any base t v := hval0
  have hW' := hW
  obtain ⟨p, q, hA0, hV, rfl, hfz, hnd⟩ := hW
  have hA : DataW.TrodAll enc Try.prog W 0 (fun _ => true) true Try.f13.params.toList args.toList ds p := hA0
  rw [Try.params13] at hA hval
  obtain ⟨v0, vs0, d0, ds0, p0, q0, ha0, rfl, rfl, h0, r0⟩ := trodAll_cons hA
  obtain ⟨v1, vs1, d1, ds1, p1, q1, ha1, rfl, rfl, h1, r1⟩ := trodAll_cons r0
  obtain ⟨v2, vs2, d2, ds2, p2, q2, ha2, rfl, rfl, h2, r2⟩ := trodAll_cons r1
  obtain ⟨he, rfl, rfl⟩ := trodAll_nil r2
  obtain rfl : args = #[v0, v1, v2] := by cases args; simp_all
  obtain ⟨rfl, rfl⟩ := trodVars_none hV
  obtain ⟨b, vt, vm, lr, lb, lk, rfl, hT, hM⟩ := rd_book (hval 0 25 _ rfl rfl) h0
  obtain ⟨l, hxl⟩ := rd_reads (hval 1 49 _ rfl rfl) h1
  obtain ⟨l2, hx2⟩ := rd_list (hval 2 44 _ rfl rfl) h2
  refine (HardDoubtful_ok  b vt vm lr lb lk W hT hM l _ hxl l2 _ hx2).mono fun e W' he => ?_
  cases e with
  | panicked c => exact he.elim
  | outgrown => exact he.elim
  | returned v =>
    obtain ⟨rfl, hE⟩ := he
    exact ⟨_, rfl, law_post Try.laidOut (by kernel_rfl) rfl hW' rfl rfl Try.underlying4 hE⟩
theorem hardDoubtful_holds : Rows.HardDoubtfulSaid :=
  OpenClaim.holds_of_wide 13 Try.f13 rfl rfl rfl rfl rfl rfl rfl ⟨rfl, rfl, rfl, rfl, rfl⟩ rfl rfl rfl rfl rfl (by kernel_rfl) Try.func13 (by kernel_rfl)
    (of_decide_eq_true (by kernel_rfl)) (by unfold Func.isWrapper; first | (rw [if_pos (by decide +kernel)]; kernel_rfl) | (rw [if_neg (by decide +kernel)]; exact ⟨rfl, rfl⟩))
    (fun os started H enc _ => hardDoubtful_lifted os started H enc)
#print axioms hardDoubtful_holds
end Go.Proofs.Ytohgladndklciaa
