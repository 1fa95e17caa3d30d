/- For every fault (numbers of 64 bits and a bool): the program's IsLongFrame and the reference's, as plain functions, answer the same. No condition. -/
import Derived.Test.YtaalmfjpdgdnaaaGx3
import Derived.Test.YtaalmfjpdgdnaaaMath
set_option linter.unusedVariables false
set_option linter.unusedSimpArgs false
namespace Go.Proofs.Ytaalmfjpdgdnaaa.Pure
open Go.RowKit Go.Proofs.Ytaalmfjpdgdnaaa.G Go.Proofs.YtaalmfjpdgdnaaaW.PrintWords Go.Proofs.YtaalmfjpdgdnaaaW.PrintLast Go.Proofs.Ytaalmfjpdgdnaaa.Math

theorem l1In_eq (a b c : Int) : spec_l1In.f a b c = some (decide (b ≤ a ∧ a ≤ c)) := by
  unfold spec_l1In.f
  by_cases h : b ≤ a <;> simp [h]
theorem within_eq (a b c : Int) : impl_within.f a b c = some (decide (b ≤ a ∧ a ≤ c)) := by
  unfold impl_within.f
  by_cases h : b ≤ a <;> simp [h]
theorem l6Word_eq (a : Int) : spec_l6Word.f a = some (decide (0 ≤ a ∧ a ≤ 65535)) := by
  unfold spec_l6Word.f
  rw [l1In_eq]
  rfl
theorem isWord_eq (a : Int) : impl_isWord.f a = some (decide (0 ≤ a ∧ a ≤ 65535)) := by
  unfold impl_isWord.f
  rw [within_eq]
  rfl
theorem lLong_eq (v : Int) : spec_l11Long.f v = some (decide (v = 2 ∨ v = 3)) := by
  unfold spec_l11Long.f
  by_cases h : v = 2
  · simp [h]
  · by_cases h2 : v = 3 <;> simp [h, h2]
theorem isLong_eq (v p a o : Int) (wr : Bool) : impl_isLong.f v p a o wr = some (decide (v = 2 ∨ v = 3)) := by
  unfold impl_isLong.f
  by_cases h : v = 2
  · simp [h]
  · by_cases h2 : v = 3 <;> simp [h, h2]
/-- Whether a fault is good. -/
def goodFault (v p a o : Int) (wr : Bool) : Bool :=
  decide ((2 ≤ v ∧ v ≤ 21) ∧ (0 ≤ p ∧ p ≤ 65535) ∧ (0 ≤ a ∧ a ≤ 65535) ∧ (0 ≤ o ∧ o ≤ 65535) ∧ ((v = 2 ∨ v = 3) ∨ (a = 0 ∧ wr = false)))
theorem lGoodFault_eq (v p a o : Int) (wr : Bool) : spec_GoodFault.f v p a o wr = some (goodFault v p a o wr) := by
  unfold spec_GoodFault.f goodFault
  simp only [l1In_eq, l6Word_eq, lLong_eq, Option.bind_some, decide_eq_true_eq]
  by_cases h1 : 2 ≤ v ∧ v ≤ 21 <;> by_cases h2 : 0 ≤ p ∧ p ≤ 65535 <;> by_cases h3 : 0 ≤ a ∧ a ≤ 65535 <;> by_cases h4 : 0 ≤ o ∧ o ≤ 65535 <;> by_cases h5 : v = 2 ∨ v = 3 <;> by_cases h6 : a = 0 <;> cases wr <;> simp [h1, h2, h3, h4, h5, h6]
theorem iGoodFault_eq (v p a o : Int) (wr : Bool) : impl_GoodFault.f v p a o wr = some (goodFault v p a o wr) := by
  unfold impl_GoodFault.f goodFault
  simp only [within_eq, isWord_eq, isLong_eq, Option.bind_some, decide_eq_true_eq]
  by_cases h1 : 2 ≤ v ∧ v ≤ 21 <;> by_cases h2 : 0 ≤ p ∧ p ≤ 65535 <;> by_cases h3 : 0 ≤ a ∧ a ≤ 65535 <;> by_cases h4 : 0 ≤ o ∧ o ≤ 65535 <;> by_cases h5 : v = 2 ∨ v = 3 <;> by_cases h6 : a = 0 <;> cases wr <;> simp [h1, h2, h3, h4, h5, h6]
theorem FnExactIsLongFrame : ∀ (a0_0 : Int) (a0_1 : Int) (a0_2 : Int) (a0_3 : Int) (a0_4 : Bool), (Lit.int .i64 a0_0).wf = true → (Lit.int .i64 a0_1).wf = true → (Lit.int .i64 a0_2).wf = true → (Lit.int .i64 a0_3).wf = true → laws_FnExactIsLongFrame.f a0_0 a0_1 a0_2 a0_3 a0_4 = some true := by
  intro a0 a1 a2 a3 a4 _ _ _ _
  unfold laws_FnExactIsLongFrame.f laws_toFault.f spec_IsLongFrame.f impl_IsLongFrame.f
  simp only [Option.bind_some, lGoodFault_eq, iGoodFault_eq, lLong_eq, isLong_eq]
  cases goodFault a0 a1 a2 a3 a4 <;> simp

end Go.Proofs.Ytaalmfjpdgdnaaa.Pure
