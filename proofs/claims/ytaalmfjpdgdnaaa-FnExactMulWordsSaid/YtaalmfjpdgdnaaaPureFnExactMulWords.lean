/- For all whole numbers a, b of 64 bits: the program's MulWords(a, b) and the reference's, as plain functions, answer the same. No condition. -/
import Derived.Test.YtaalmfjpdgdnaaaPFnExactMulWordsx1
import Derived.Test.YtaalmfjpdgdnaaaMath
set_option linter.unusedVariables false
set_option linter.unusedSimpArgs false
namespace Go.Proofs.Ytaalmfjpdgdnaaa.Pure
open Go.RowKit Go.Proofs.Ytaalmfjpdgdnaaa.PFnExactMulWords Go.Proofs.YtaalmfjpdgdnaaaW.PrintWords Go.Proofs.YtaalmfjpdgdnaaaW.PrintLast Go.Proofs.Ytaalmfjpdgdnaaa.Math

theorem l1In_eq (a b c : Int) : spec_l1In.f a b c = some (decide (b ≤ a ∧ a ≤ c)) := by
  unfold spec_l1In.f
  by_cases h : b ≤ a <;> simp [h]
theorem within_eq (a b c : Int) : impl_within.f a b c = some (decide (b ≤ a ∧ a ≤ c)) := by
  unfold impl_within.f
  by_cases h : b ≤ a <;> simp [h]
theorem l6Word_eq (a : Int) : spec_l6Word.f a = some (decide (0 ≤ a ∧ a ≤ 65535)) := by
  unfold spec_l6Word.f
  rw [l1In_eq]
  rfl
theorem isWord_eq (a : Int) : impl_isWord.f a = some (decide (0 ≤ a ∧ a ≤ 65535)) := by
  unfold impl_isWord.f
  rw [within_eq]
  rfl
theorem FnExactMulWords : laws_FnExactMulWords.Pure := by
  intro a0 a1 _ _
  unfold laws_FnExactMulWords.f spec_MulWords.f impl_MulWords.f
  simp only [l6Word_eq, isWord_eq, Option.bind_some, impl_twoWords.f]
  by_cases h0 : 0 ≤ a0 ∧ a0 ≤ 65535
  · by_cases h1 : 0 ≤ a1 ∧ a1 ≤ 65535
    · have hp0 : 0 ≤ a0 * a1 := Int.mul_nonneg h0.1 h1.1
      have hp1 : a0 * a1 ≤ 65535 * 65535 := Int.mul_le_mul h0.2 h1.2 h1.1 (by decide)
      have hw : wrap64 (a0 * a1) = a0 * a1 := wrap64_id (by omega) (by omega)
      have he : a0 * a1 / 65536 % 65536 = a0 * a1 / 65536 := Int.emod_eq_of_lt (by omega) (by omega)
      simp [h0, h1, hw, and_65535, he]
    · simp [h0, h1]
  · simp [h0]

end Go.Proofs.Ytaalmfjpdgdnaaa.Pure
