/- For all whole numbers high, low, by of 64 bits: the program's DivWords and the reference's, as plain functions, end and answer the same. No condition. -/
import Derived.Test.YtaalmfjpdgdnaaaPFnExactDivWordsx1
import Derived.Test.YtaalmfjpdgdnaaaMath
set_option linter.unusedVariables false
set_option linter.unusedSimpArgs false
namespace Go.Proofs.Ytaalmfjpdgdnaaa.Pure
open Go.RowKit Go.Proofs.Ytaalmfjpdgdnaaa.PFnExactDivWords Go.Proofs.YtaalmfjpdgdnaaaW.PrintWords Go.Proofs.YtaalmfjpdgdnaaaW.PrintLast Go.Proofs.Ytaalmfjpdgdnaaa.Math

theorem l1In_eq (a b c : Int) : spec_l1In.f a b c = some (decide (b ≤ a ∧ a ≤ c)) := by
  unfold spec_l1In.f
  by_cases h : b ≤ a <;> simp [h]
theorem within_eq (a b c : Int) : impl_within.f a b c = some (decide (b ≤ a ∧ a ≤ c)) := by
  unfold impl_within.f
  by_cases h : b ≤ a <;> simp [h]
theorem l6Word_eq (a : Int) : spec_l6Word.f a = some (decide (0 ≤ a ∧ a ≤ 65535)) := by
  unfold spec_l6Word.f
  rw [l1In_eq]
  rfl
theorem isWord_eq (a : Int) : impl_isWord.f a = some (decide (0 ≤ a ∧ a ≤ 65535)) := by
  unfold impl_isWord.f
  rw [within_eq]
  rfl
theorem div_same : ∀ (k : Nat) (lo b left q n i : Int), i ≤ 15 → -1 ≤ i → impl_DivWords.l0 k lo b q left n i = spec_DivWords.l0 k lo b left q n i
  | 0, _, _, _, _, _, _, _, _ => rfl
  | k + 1, lo, b, left, q, n, i, h1, h2 => by
    simp only [impl_DivWords.l0, spec_DivWords.l0]
    by_cases hi : 0 ≤ i
    · have hu : IntKind.u64.wrap i = i := u64_id hi (by omega)
      have hw : wrap64 (i - 1) = i - 1 := wrap64_id (by omega) (by omega)
      have hl : bits .or .i64 (wrap64 (left * 2)) (shr .i64 lo i % 2) = wrap64 (wrap64 (2 * left) + shr .i64 lo i % 2) := by
        rw [or_bit _ _ (by unfold wrap64; omega) (by omega), Int.mul_comm left 2]
      have hq : bits .or .i64 (wrap64 (q * 2)) 1 = wrap64 (wrap64 (q * 2) + 1) := or_bit _ _ (by unfold wrap64; omega) (.inr rfl)
      have ih := fun l q n => div_same k lo b l q n (i - 1) (by omega) (by omega)
      simp only [hu, hw, and_1, hl, hq, ge_iff_le, ih]
    · simp [hi]
theorem div_ends (lo b : Int) : ∀ (j k : Nat) (left q n : Int), j ≤ 16 → j < k → ∃ r : Int × Int × Int, spec_DivWords.l0 k lo b left q n ((j : Int) - 1) = some (r.1, r.2.1, r.2.2, true) := by
  intro j
  induction j with
  | zero =>
    intro k left q n _ hk
    obtain ⟨k, rfl⟩ : ∃ m, k = m + 1 := ⟨k - 1, by omega⟩
    simp only [spec_DivWords.l0]
    rw [if_neg (by omega)]
    exact ⟨(_, _, _), rfl⟩
  | succ j ih =>
    intro k left q n hj hk
    obtain ⟨k, rfl⟩ : ∃ m, k = m + 1 := ⟨k - 1, by omega⟩
    simp only [spec_DivWords.l0]
    rw [if_pos (by omega), if_pos (u64_nonneg _)]
    have hw : wrap64 (((j + 1 : Nat) : Int) - 1 - 1) = (j : Int) - 1 := by rw [wrap64_id (by omega) (by omega)]; omega
    rw [hw]
    split
    · exact ih k _ _ _ (by omega) (by omega)
    · exact ih k _ _ _ (by omega) (by omega)
theorem div_both (a0 a1 a2 : Int) (k : Nat) (hk : 20 ≤ k) : ∃ r, spec_DivWords.f k a0 a1 a2 = some r ∧ impl_DivWords.f k a0 a1 a2 = some r := by
  obtain ⟨k, rfl⟩ : ∃ m, k = m + 1 := ⟨k - 1, by omega⟩
  unfold spec_DivWords.f impl_DivWords.f
  simp only [l6Word_eq, isWord_eq, l1In_eq, Option.bind_some, spec_DivWords.j0, impl_DivWords.j0]
  by_cases h0 : 0 ≤ a0 ∧ a0 ≤ 65535
  · by_cases h1 : 0 ≤ a1 ∧ a1 ≤ 65535
    · by_cases h2 : 1 ≤ a2 ∧ a2 ≤ 65535
      · by_cases h3 : a0 ≥ a2
        · exact ⟨(0, 0, 0, false), by simp [h0, h1, h2, h3], by simp [h0, h1, h3]⟩
        · obtain ⟨r, hr⟩ := div_ends a1 a2 16 k a0 0 0 (by omega) (by omega)
          have hr' : spec_DivWords.l0 k a1 a2 a0 0 0 15 = some (r.1, r.2.1, r.2.2, true) := hr
          exact ⟨_, by simp [h0, h1, h2, h3]; exact hr', by rw [if_pos (by simp [h0]), if_pos (by simp [h1]), if_pos (by simp; omega), if_neg (by simp; omega), div_same k a1 a2 a0 0 0 15 (by decide) (by decide)]; exact hr'⟩
      · by_cases h4 : 0 ≤ a2 ∧ a2 ≤ 65535
        · have h3 : a2 ≤ a0 := by omega
          exact ⟨(0, 0, 0, false), by simp [h0, h1, h2], by simp [h0, h1, h3]⟩
        · exact ⟨(0, 0, 0, false), by simp [h0, h1, h2], by simp [h0, h1, h4]⟩
    · exact ⟨(0, 0, 0, false), by simp [h0, h1], by simp [h0, h1]⟩
  · exact ⟨(0, 0, 0, false), by simp [h0], by simp [h0]⟩
theorem FnExactDivWords : laws_FnExactDivWords.Pure := by
  intro a0 a1 a2 _ _ _
  obtain ⟨r, h1, h2⟩ := div_both a0 a1 a2 20 (Nat.le_refl _)
  refine ⟨20, ?_⟩
  unfold laws_FnExactDivWords.f
  rw [h1, h2]
  simp

end Go.Proofs.Ytaalmfjpdgdnaaa.Pure
