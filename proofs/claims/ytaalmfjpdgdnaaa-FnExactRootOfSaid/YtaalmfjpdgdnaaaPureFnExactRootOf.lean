/- For every whole number v of 64 bits: the program's RootOf(v) and the reference's, as plain functions, end and answer the same. No condition. -/
import Derived.Test.YtaalmfjpdgdnaaaPFnExactRootOfx1
import Derived.Test.YtaalmfjpdgdnaaaMath
set_option linter.unusedVariables false
set_option linter.unusedSimpArgs false
namespace Go.Proofs.Ytaalmfjpdgdnaaa.Pure
open Go.RowKit Go.Proofs.Ytaalmfjpdgdnaaa.PFnExactRootOf Go.Proofs.YtaalmfjpdgdnaaaW.PrintWords Go.Proofs.YtaalmfjpdgdnaaaW.PrintLast Go.Proofs.Ytaalmfjpdgdnaaa.Math

theorem l1In_eq (a b c : Int) : spec_l1In.f a b c = some (decide (b ≤ a ∧ a ≤ c)) := by
  unfold spec_l1In.f
  by_cases h : b ≤ a <;> simp [h]
theorem within_eq (a b c : Int) : impl_within.f a b c = some (decide (b ≤ a ∧ a ≤ c)) := by
  unfold impl_within.f
  by_cases h : b ≤ a <;> simp [h]
theorem l6Word_eq (a : Int) : spec_l6Word.f a = some (decide (0 ≤ a ∧ a ≤ 65535)) := by
  unfold spec_l6Word.f
  rw [l1In_eq]
  rfl
theorem isWord_eq (a : Int) : impl_isWord.f a = some (decide (0 ≤ a ∧ a ≤ 65535)) := by
  unfold impl_isWord.f
  rw [within_eq]
  rfl
theorem root_same : ∀ (k : Nat) (v n : Int), impl_RootOf.l0 k v n = spec_RootOf.l0 k v n
  | 0, _, _ => rfl
  | k + 1, v, n => by simp only [impl_RootOf.l0, spec_RootOf.l0, root_same k]
theorem root_ends (v : Int) (hv : v ≤ 65535) : ∀ (d k : Nat) (n : Int), 0 ≤ n → n ≤ 65535 → v - n < (d : Int) → d < k → ∃ r, spec_RootOf.l0 k v n = some (r, true) := by
  have step : ∀ n : Int, 0 ≤ n → n ≤ 65535 → wrap64 (wrap64 (n + 1) * wrap64 (n + 1)) = (n + 1) * (n + 1) ∧ n + 1 ≤ (n + 1) * (n + 1) := by
    intro n h0 h1
    have e1 : wrap64 (n + 1) = n + 1 := wrap64_id (by omega) (by omega)
    have e2 : (n + 1) * (n + 1) ≤ 65536 * 65536 := Int.mul_le_mul (by omega) (by omega) (by omega) (by decide)
    have e3 : (n + 1) * 1 ≤ (n + 1) * (n + 1) := Int.mul_le_mul_of_nonneg_left (by omega) (by omega)
    rw [e1]
    exact ⟨wrap64_id (by omega) (by omega), by omega⟩
  intro d
  induction d with
  | zero =>
    intro k n h0 h1 hd hk
    obtain ⟨k, rfl⟩ : ∃ m, k = m + 1 := ⟨k - 1, by omega⟩
    obtain ⟨e1, e2⟩ := step n h0 h1
    simp only [spec_RootOf.l0]
    rw [e1, if_neg (by omega)]
    exact ⟨_, rfl⟩
  | succ d ih =>
    intro k n h0 h1 hd hk
    obtain ⟨k, rfl⟩ : ∃ m, k = m + 1 := ⟨k - 1, by omega⟩
    obtain ⟨e1, e2⟩ := step n h0 h1
    simp only [spec_RootOf.l0]
    rw [e1]
    by_cases h : (n + 1) * (n + 1) ≤ v
    · rw [if_pos h, wrap64_id (n := n + 1) (by omega) (by omega)]
      exact ih k (n + 1) (by omega) (by omega) (by omega) (by omega)
    · rw [if_neg h]
      exact ⟨_, rfl⟩
theorem FnExactRootOf : laws_FnExactRootOf.Pure := by
  intro a0 _
  refine ⟨70000, ?_⟩
  generalize hk : 70000 = k
  unfold laws_FnExactRootOf.f spec_RootOf.f impl_RootOf.f
  simp only [l6Word_eq, isWord_eq, Option.bind_some]
  by_cases h0 : 0 ≤ a0 ∧ a0 ≤ 65535
  · obtain ⟨r, hr⟩ := root_ends a0 h0.2 65537 k 0 (by decide) (by decide) (by omega) (by omega)
    simp [h0, root_same, hr]
  · simp [h0]

end Go.Proofs.Ytaalmfjpdgdnaaa.Pure
