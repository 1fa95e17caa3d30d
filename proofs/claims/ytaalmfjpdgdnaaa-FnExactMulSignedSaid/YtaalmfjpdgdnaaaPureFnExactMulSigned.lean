/- For all whole numbers a, b of 64 bits: the program's MulSigned(a, b) and the reference's, as plain functions, answer the same. No condition. -/
import Derived.Test.YtaalmfjpdgdnaaaPFnExactMulSignedx1
import Derived.Test.YtaalmfjpdgdnaaaMath
set_option linter.unusedVariables false
set_option linter.unusedSimpArgs false
namespace Go.Proofs.Ytaalmfjpdgdnaaa.Pure
open Go.RowKit Go.Proofs.Ytaalmfjpdgdnaaa.PFnExactMulSigned Go.Proofs.YtaalmfjpdgdnaaaW.PrintWords Go.Proofs.YtaalmfjpdgdnaaaW.PrintLast Go.Proofs.Ytaalmfjpdgdnaaa.Math

theorem l1In_eq (a b c : Int) : spec_l1In.f a b c = some (decide (b ≤ a ∧ a ≤ c)) := by
  unfold spec_l1In.f
  by_cases h : b ≤ a <;> simp [h]
theorem within_eq (a b c : Int) : impl_within.f a b c = some (decide (b ≤ a ∧ a ≤ c)) := by
  unfold impl_within.f
  by_cases h : b ≤ a <;> simp [h]
theorem l6Word_eq (a : Int) : spec_l6Word.f a = some (decide (0 ≤ a ∧ a ≤ 65535)) := by
  unfold spec_l6Word.f
  rw [l1In_eq]
  rfl
theorem isWord_eq (a : Int) : impl_isWord.f a = some (decide (0 ≤ a ∧ a ≤ 65535)) := by
  unfold impl_isWord.f
  rw [within_eq]
  rfl
/-- A word as a number with a sign, as Go reckons it. -/
def sgn2 (a : Int) : Int := if a ≥ wrap64 (Int.tdiv 65536 2) then wrap64 (a - 65536) else a
theorem top2 : spec_l1Top.f 2 = some 65536 := by decide +kernel
theorem limit2 : impl_limitOf.f 2 = some 65536 := by decide +kernel
theorem lsigned2 (a : Int) : spec_l1Signed.f 2 a = some (sgn2 a) := by
  unfold spec_l1Signed.f sgn2
  rw [top2]
  simp only [Option.bind_some]
  split <;> rfl
theorem signed2 (a : Int) : impl_signedOf.f 2 a = some (sgn2 a) := by
  unfold impl_signedOf.f sgn2
  rw [limit2]
  simp only [Option.bind_some]
  split <;> rfl
theorem FnExactMulSigned : laws_FnExactMulSigned.Pure := by
  intro a0 a1 _ _
  refine ⟨1, ?_⟩
  unfold laws_FnExactMulSigned.f spec_MulSigned.f impl_MulSigned.f
  simp only [l6Word_eq, isWord_eq, Option.bind_some, spec_MulSigned.j0, impl_MulSigned.j0, signed2, spec_l9Signed.f, lsigned2, spec_l9Two.f, impl_twoWords.f]
  by_cases h0 : 0 ≤ a0 ∧ a0 ≤ 65535
  · by_cases h1 : 0 ≤ a1 ∧ a1 ≤ 65535
    · simp [h0, h1]
    · simp [h0, h1]
  · simp [h0]

end Go.Proofs.Ytaalmfjpdgdnaaa.Pure
