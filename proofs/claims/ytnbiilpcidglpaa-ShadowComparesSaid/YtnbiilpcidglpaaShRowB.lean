/- Walks of this program by an abstract machine: the text ShRowB. No conditions. -/
import Derived.Test.YtnbiilpcidglpaaShRow
set_option linter.unusedSimpArgs false
set_option linter.unusedVariables false

/-
  The row's closed facts, one by one, and the row.
-/
namespace Go.Proofs.Ytnbiilpcidglpaa.shadowCompares
set_option maxHeartbeats 40000000 in
theorem closed : joinedFacts Try.pinned.checked.prog 3 Try.f3 Rows.shadowComparesSpec Rows.shadowComparesRow = true := by
  unfold joinedFacts
  simp only [Bool.and_eq_true]
  repeat' apply And.intro
  all_goals as_aux_lemma => kernel_rfl
set_option maxHeartbeats 40000000 in
theorem named : Try.pinned.checked.prog.funcNamed Rows.shadowComparesRow.func = some 3 := by kernel_rfl
set_option maxHeartbeats 40000000 in
theorem inst : Try.f3.isInstance Try.pinned.checked.prog Rows.shadowComparesRow.origin Rows.shadowComparesRow.targs := of_decide_eq_true (by kernel_rfl)
set_option maxHeartbeats 40000000 in
theorem wrapped : Try.f3.isWrapper Try.pinned.checked.prog Rows.shadowComparesRow.wrapper Rows.shadowComparesRow.mainSum := by unfold Func.isWrapper; first | (rw [if_pos (by decide +kernel)]; kernel_rfl) | (rw [if_neg (by decide +kernel)]; exact ⟨rfl, rfl⟩)
set_option maxHeartbeats 40000000 in
theorem over : Rows.shadowComparesRow.holds Try.pinned (OpenSpec.ofChange Rows.shadowComparesSpec) :=
  OpenClaim.holds_of_wide 3 Try.f3 rfl rfl rfl rfl rfl rfl rfl ⟨rfl, rfl, rfl, rfl, rfl⟩ rfl rfl rfl rfl rfl named Try.func3 closed inst wrapped
    (fun os started H enc _ => lifted os started H enc)
theorem proved : Rows.ShadowComparesSaid := over
#print axioms proved
end Go.Proofs.Ytnbiilpcidglpaa.shadowCompares
namespace Go.Proofs.Ytnbiilpcidglpaa
/-- The row, under a short name, for the claim. -/
theorem shadowCompares_holds : Rows.ShadowComparesSaid := shadowCompares.proved
end Go.Proofs.Ytnbiilpcidglpaa
