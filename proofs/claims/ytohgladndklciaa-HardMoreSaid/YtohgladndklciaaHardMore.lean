/-
  HardMoreSaid: the law HardMore returns true for every input, and leaves its arguments as they were. No condition is asked beyond those of the row.
-/
import Derived.Test.YtohgladndklciaaRead
import Derived.Test.YtohgladndklciaaLHardMore
set_option linter.unusedSimpArgs false
set_option linter.unusedVariables false
namespace Go.Proofs.Ytohgladndklciaa
open Go.RowKit Go.Shelf Go.Eng Go.Hard Go.ChangeShapes Go.WideShapes Go.ChangeAt Go.Joins Go.Deep
set_option maxHeartbeats 4000000 in
set_option maxRecDepth 100000 in
theorem hardMore_lifted (os : Os) (started : os.Started) (H : Type) (enc : TypeId × Value → H) :
    ReturnsInHanded {} Try.checked os 6 .any (Rows.hardMoreSpec.pre6 enc Try.prog Try.f6 Rows.hardMoreRow.domain false) (Rows.hardMoreSpec.post enc Try.prog Try.f6 false true false false) := by
  refine returnsInHanded_of_change_sized (C := Try.checked) Try.own started (by kernel_rfl) Try.func6
    (ChangeSpec.witness6 (enc := enc) (C := Try.checked) false ⟨#[], #[.agg #[.int .i64 0, .slice none 0 0, .slice none 0 0], .slice none 0 0, .int .u8 0, .agg #[.int .i64 0, .int .i64 0], .agg #[.int .i64 0, .int .i64 0, .int .i64 0], .agg #[.int .i64 0, .int .i64 0, .slice none 0 0, .slice none 0 0, .int .i64 0]], []⟩ 8 (by kernel_rfl) (by kernel_rfl) (by kernel_rfl) (by kernel_rfl)) ?_
  intro W base args ds gs before hval0 hW hcnd hsz _
  have hval : ∀ (j : Nat) t v, Try.f6.params[j]? = some t → args[j]? = some v → Value.okWide Try.prog W .any base t v := hval0
  have hW' := hW
  obtain ⟨p, q, hA0, hV, rfl, hfz, hnd⟩ := hW
  have hA : DataW.TrodAll enc Try.prog W 0 (fun _ => true) true Try.f6.params.toList args.toList ds p := hA0
  rw [Try.params6] at hA hval
  obtain ⟨v0, vs0, d0, ds0, p0, q0, ha0, rfl, rfl, h0, r0⟩ := trodAll_cons hA
  obtain ⟨v1, vs1, d1, ds1, p1, q1, ha1, rfl, rfl, h1, r1⟩ := trodAll_cons r0
  obtain ⟨v2, vs2, d2, ds2, p2, q2, ha2, rfl, rfl, h2, r2⟩ := trodAll_cons r1
  obtain ⟨v3, vs3, d3, ds3, p3, q3, ha3, rfl, rfl, h3, r3⟩ := trodAll_cons r2
  obtain ⟨v4, vs4, d4, ds4, p4, q4, ha4, rfl, rfl, h4, r4⟩ := trodAll_cons r3
  obtain ⟨v5, vs5, d5, ds5, p5, q5, ha5, rfl, rfl, h5, r5⟩ := trodAll_cons r4
  obtain ⟨he, rfl, rfl⟩ := trodAll_nil r5
  obtain rfl : args = #[v0, v1, v2, v3, v4, v5] := by cases args; simp_all
  obtain ⟨rfl, rfl⟩ := trodVars_none hV
  obtain ⟨b, vt, vm, lr, lb, lk, rfl, hT, hM⟩ := rd_book (hval 0 25 _ rfl rfl) h0
  obtain ⟨l, hxl⟩ := rd_reads (hval 1 49 _ rfl rfl) h1
  obtain ⟨n2, rfl, rfl, rfl, hw2⟩ := open_int Try.underlying5 (hval 2 5 _ rfl rfl) h2
  obtain ⟨m3a, m3b, rfl⟩ := rd_reading (hval 3 67 _ rfl rfl) h3
  obtain ⟨k4a, k4b, k4c, rfl⟩ := rd_block (hval 4 63 _ rfl rfl) h4
  obtain ⟨t5, vr5, vb5, rfl, hr5, hb5⟩ := rd_table (hval 5 46 _ rfl rfl) h5
  have hzb := rd_sizes (light_each hsz (j := 0) rfl rfl) h0 hT hM
  have hzq := light_top Try.underlying49 h1 (light_each hsz (j := 1) rfl rfl) hxl
  rw [show Try.prog.bytesOf 46 = 72 from by kernel_rfl, show Try.prog.bytesOf 61 = 32 from by kernel_rfl, show Try.prog.bytesOf 63 = 24 from by kernel_rfl] at hzb
  rw [show Try.prog.bytesOf 67 = 16 from by kernel_rfl] at hzq
  refine (HardMore_ok  b vt vm lr lb lk W hT hM l _ hxl n2 (wf_u8 hw2) m3a m3b k4a k4b k4c t5 vr5 vb5 hr5 hb5 hzb.1 hzb.2.1 hzb.2.2 hzq).mono fun e W' he => ?_
  cases e with
  | panicked c => exact he.elim
  | outgrown => exact he.elim
  | returned v =>
    obtain ⟨rfl, hE⟩ := he
    exact ⟨_, rfl, law_post Try.laidOut (by kernel_rfl) rfl hW' rfl rfl Try.underlying4 hE⟩
theorem hardMore_holds : Rows.HardMoreSaid :=
  OpenClaim.holds_of_wide 6 Try.f6 rfl rfl rfl rfl rfl rfl rfl ⟨rfl, rfl, rfl, rfl, rfl⟩ rfl rfl rfl rfl rfl (by kernel_rfl) Try.func6 (by kernel_rfl)
    (of_decide_eq_true (by kernel_rfl)) (by unfold Func.isWrapper; first | (rw [if_pos (by decide +kernel)]; kernel_rfl) | (rw [if_neg (by decide +kernel)]; exact ⟨rfl, rfl⟩))
    (fun os started H enc _ => hardMore_lifted os started H enc)
#print axioms hardMore_holds
end Go.Proofs.Ytohgladndklciaa
