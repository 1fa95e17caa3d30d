/- The law FnExactNewStore as a plain function answers true for all arguments (numbers of 64 bits, lists of at most 2^63 - 1 elements). No other condition. -/
import Derived.Test.YtopmacbjbjaekaaHx37
import Derived.Test.YtopmacbjbjaekaaMath
set_option linter.unusedVariables false
set_option linter.unusedSimpArgs false
namespace Go.Proofs.Ytopmacbjbjaekaa.Pure
open Go.RowKit Go.Proofs.Ytopmacbjbjaekaa.H Go.Proofs.YtopmacbjbjaekaaW.PrintWords Go.Proofs.YtopmacbjbjaekaaW.PrintLast Go.Proofs.Ytopmacbjbjaekaa.Math

theorem l1In_eq (a b c : Int) : spec_l1In.f a b c = some (decide (b ≤ a ∧ a ≤ c)) := by
  unfold spec_l1In.f
  by_cases h : b ≤ a <;> simp [h]
theorem within_eq (a b c : Int) : impl_within.f a b c = some (decide (b ≤ a ∧ a ≤ c)) := by
  unfold impl_within.f
  by_cases h : b ≤ a <;> simp [h]
theorem held0 (k : Nat) (x y n : Int) (h : 0 ≤ n) : laws_heldStore.f (k + 1) x y [] n = some n := by
  unfold laws_heldStore.f laws_heldCachedS.f
  rw [laws_heldCachedS.l0, if_neg (by simp), Option.bind_some, if_neg (by omega)]
theorem mark0 (k : Nat) (x y n : Int) : laws_markStore.f (k + 1) x y [] n = some n := by
  unfold laws_markStore.f laws_markCachedS.f
  rw [laws_markCachedS.l0, if_neg (by simp), Option.bind_some]
theorem eqStore0 (k : Nat) (x y : Int) : laws_eqStore.f (k + 1) x y [] x y [] = some true := by
  unfold laws_eqStore.f laws_eqCachedS.f
  rw [if_pos rfl, if_pos rfl, if_pos rfl, laws_eqCachedS.l0, if_neg (by simp), Option.bind_some, if_pos rfl]
theorem newStore_same (a : Int) : ∃ x y b, spec_NewStore.f a = some (x, y, [], b) ∧ impl_NewStore.f a = some (x, y, [], b) := by
  unfold spec_NewStore.f impl_NewStore.f
  rw [l1In_eq, within_eq, Option.bind_some]
  split <;> exact ⟨_, _, _, rfl, rfl⟩
theorem FnExactNewStore : ∀ (a0 : Int), (Lit.int .i64 a0).wf = true → ∃ k, laws_FnExactNewStore.f k a0 = some true := by
  intro a _
  obtain ⟨x, y, b, h1, h2⟩ := newStore_same a
  refine ⟨4, ?_⟩
  unfold laws_FnExactNewStore.f
  rw [h1, h2, Option.bind_some, Option.bind_some, eqStore0 3, Option.bind_some, if_pos rfl, laws_FnExactNewStore.j0, if_neg (by simp), mark0 2, Option.bind_some, held0 2 _ _ _ (by omega), Option.bind_some, if_neg (by omega), if_pos rfl, h2, Option.bind_some, eqStore0 2, Option.bind_some, if_pos rfl, laws_FnExactNewStore.j1, if_neg (by simp), held0 1 _ _ _ (by omega), Option.bind_some, if_neg (by omega), if_pos rfl]

end Go.Proofs.Ytopmacbjbjaekaa.Pure
