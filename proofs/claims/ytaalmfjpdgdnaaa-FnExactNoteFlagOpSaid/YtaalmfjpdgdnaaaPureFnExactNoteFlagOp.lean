/- For every lazy note and flag operation (numbers of 64 bits): the program's NoteFlagOp and the reference's, as plain functions, answer the same. No condition. -/
import Derived.Test.YtaalmfjpdgdnaaaGx6
import Derived.Test.YtaalmfjpdgdnaaaMath
set_option linter.unusedVariables false
set_option linter.unusedSimpArgs false
namespace Go.Proofs.Ytaalmfjpdgdnaaa.Pure
open Go.RowKit Go.Proofs.Ytaalmfjpdgdnaaa.G Go.Proofs.YtaalmfjpdgdnaaaW.PrintWords Go.Proofs.YtaalmfjpdgdnaaaW.PrintLast Go.Proofs.Ytaalmfjpdgdnaaa.Math

theorem l1In_eq (a b c : Int) : spec_l1In.f a b c = some (decide (b ≤ a ∧ a ≤ c)) := by
  unfold spec_l1In.f
  by_cases h : b ≤ a <;> simp [h]
theorem within_eq (a b c : Int) : impl_within.f a b c = some (decide (b ≤ a ∧ a ≤ c)) := by
  unfold impl_within.f
  by_cases h : b ≤ a <;> simp [h]
theorem lSize_eq (s : Int) : spec_l1Size.f s = some (decide (s = 1 ∨ s = 2)) := by
  unfold spec_l1Size.f
  by_cases h : s = 1
  · simp [h]
  · by_cases h2 : s = 2 <;> simp [h, h2]
theorem isSize_eq (s : Int) : impl_isSize.f s = some (decide (s = 1 ∨ s = 2)) := by
  unfold impl_isSize.f
  by_cases h : s = 1
  · simp [h]
  · by_cases h2 : s = 2 <;> simp [h, h2]
/-- How many values a size has. -/
def top (s : Int) : Int := if s = 1 then 256 else 65536
theorem lTop_1 : spec_l1Top.f 1 = some 256 := by decide +kernel
theorem lTop_2 : spec_l1Top.f 2 = some 65536 := by decide +kernel
theorem limit_1 : impl_limitOf.f 1 = some 256 := by decide +kernel
theorem limit_2 : impl_limitOf.f 2 = some 65536 := by decide +kernel
theorem lTop_eq {s : Int} (h : s = 1 ∨ s = 2) : spec_l1Top.f s = some (top s) := by
  rcases h with rfl | rfl
  · exact lTop_1
  · exact lTop_2
theorem limit_eq {s : Int} (h : s = 1 ∨ s = 2) : impl_limitOf.f s = some (top s) := by
  rcases h with rfl | rfl
  · exact limit_1
  · exact limit_2
theorem top_le {s : Int} : 256 ≤ top s ∧ top s ≤ 65536 := by unfold top; split <;> omega
/-- Whether v is a value of size s. -/
def isVal (s v : Int) : Bool := decide ((s = 1 ∨ s = 2) ∧ 0 ≤ v ∧ v < top s)
theorem isVal_iff {s v : Int} : isVal s v = true ↔ (s = 1 ∨ s = 2) ∧ 0 ≤ v ∧ v < top s := by simp [isVal]
theorem lValue_eq (s v : Int) : spec_l1Value.f s v = some (isVal s v) := by
  unfold spec_l1Value.f isVal
  rw [lSize_eq]
  by_cases h : s = 1 ∨ s = 2
  · have ht := @top_le s
    simp only [Option.bind_some, decide_eq_true_eq, h, if_true, lTop_eq h, l1In_eq, wrap64_id (n := top s - 1) (by omega) (by omega), true_and]
    congr 1
    rw [decide_eq_decide]
    omega
  · simp [h]
theorem isValue_eq (s v : Int) : impl_isValue.f s v = some (isVal s v) := by
  unfold impl_isValue.f isVal
  rw [isSize_eq]
  by_cases h : s = 1 ∨ s = 2
  · have ht := @top_le s
    simp only [Option.bind_some, decide_eq_true_eq, h, if_true, limit_eq h, within_eq, wrap64_id (n := top s - 1) (by omega) (by omega), true_and]
    congr 1
    rw [decide_eq_decide]
    omega
  · simp [h]
/-- Whether a flag operation is good. -/
def goodOp (k s a b : Int) : Bool := decide (1 ≤ k ∧ k ≤ 5) && isVal s a && isVal s b && (decide (k ≤ 3) || b == 0)
theorem lGoodOp_eq (k s a b : Int) : spec_GoodFlagOp.f k s a b = some (goodOp k s a b) := by
  unfold spec_GoodFlagOp.f goodOp
  simp only [lValue_eq, l1In_eq, Option.bind_some, decide_eq_true_eq]
  by_cases h1 : 1 ≤ k ∧ k ≤ 5 <;> cases h2 : isVal s a <;> cases h3 : isVal s b <;> by_cases h4 : k ≤ 3 <;> simp [h1, h2, h3, h4]
theorem iGoodOp_eq (k s a b : Int) : impl_GoodFlagOp.f k s a b = some (goodOp k s a b) := by
  unfold impl_GoodFlagOp.f goodOp
  simp only [isValue_eq, within_eq, Option.bind_some, decide_eq_true_eq]
  by_cases h1 : 1 ≤ k ∧ k ≤ 5 <;> cases h2 : isVal s a <;> cases h3 : isVal s b <;> by_cases h4 : k ≤ 3 <;> simp [h1, h2, h3, h4]
theorem lFlags_eq (a : Int) : spec_l1Flags.f a = some (decide (0 ≤ a ∧ a ≤ 31)) := by
  unfold spec_l1Flags.f
  rw [l1In_eq]
  rfl
theorem areFlags_eq (a : Int) : impl_areFlags.f a = some (decide (0 ≤ a ∧ a ≤ 31)) := by
  unfold impl_areFlags.f
  rw [within_eq]
  rfl
def isNone4 (k s a b : Int) : Bool := k == 0 && (s == 0 && (a == 0 && (b == 0)))
def isSum1 (k : Int) : Bool := k == 1 || k == 2
def same4 (k s a b k' s' a' b' : Int) : Bool := k == k' && (s == s' && (a == a' && (b == b')))
theorem none_eq (k s a b : Int) : spec_l13None.f k s a b = some (isNone4 k s a b) := rfl
theorem lSum_eq (k s a b : Int) : spec_l13Sum.f k s a b = some (isSum1 k) := by
  unfold spec_l13Sum.f isSum1
  by_cases h : k = 1 <;> simp [h]
theorem iSum_eq (k : Int) : impl_isSum.f k = some (isSum1 k) := by
  unfold impl_isSum.f isSum1
  by_cases h : k = 1 <;> simp [h]
theorem none_iff {k s a b : Int} : isNone4 k s a b = true ↔ k = 0 ∧ s = 0 ∧ a = 0 ∧ b = 0 := by simp [isNone4]
theorem not_none_eq (k s a b : Int) : (!(k == 0) || (!(s == 0) || (!(a == 0) || (!(b == 0))))) = !isNone4 k s a b := by simp [isNone4, Bool.not_and]
theorem same4_zero (k s a b : Int) : same4 k s a b 0 0 0 0 = isNone4 k s a b := rfl
theorem good_kind {k s a b : Int} (h : goodOp k s a b = true) : 1 ≤ k ∧ k ≤ 5 := by
  unfold goodOp at h
  simp only [Bool.and_eq_true, decide_eq_true_eq] at h
  exact h.1.1.1
/-- Whether a note is good. -/
def goodLazy (z k s a b k' s' a' b' : Int) : Bool :=
  decide (0 ≤ z ∧ z ≤ 31) && (isNone4 k s a b || goodOp k s a b) && (isNone4 k' s' a' b' || (goodOp k' s' a' b' && isSum1 k')) &&
    (if isNone4 k s a b then isNone4 k' s' a' b' else (!isSum1 k || same4 k' s' a' b' k s a b))
theorem sum_none {k s a b : Int} (h : isNone4 k s a b = true) : isSum1 k = false := by
  obtain ⟨rfl, _⟩ := none_iff.1 h
  rfl
theorem same4_iff {k s a b k' s' a' b' : Int} : same4 k s a b k' s' a' b' = true ↔ k = k' ∧ s = s' ∧ a = a' ∧ b = b' := by simp [same4]
theorem same4_comm (k s a b k' s' a' b' : Int) : same4 k s a b k' s' a' b' = same4 k' s' a' b' k s a b := by
  rw [Bool.eq_iff_iff, same4_iff, same4_iff]
  omega
theorem lGoodLazy_eq (n : Nat) (z k s a b k' s' a' b' : Int) : spec_GoodLazy.f (n + 1) z k s a b k' s' a' b' = some (goodLazy z k s a b k' s' a' b') := by
  unfold spec_GoodLazy.f goodLazy
  simp only [lFlags_eq, none_eq, lGoodOp_eq, lSum_eq, Option.bind_some, spec_GoodLazy.j0]
  have hs : (k == k' && (s == s' && (a == a' && (b == b')))) = same4 k' s' a' b' k s a b := (same4_comm _ _ _ _ _ _ _ _)
  simp only [hs]
  by_cases h1 : 0 ≤ z ∧ z ≤ 31
  · cases hn : isNone4 k s a b with
    | true =>
      have e0 := sum_none hn
      cases hn' : isNone4 k' s' a' b' <;> cases hg : goodOp k' s' a' b' <;> cases hs' : isSum1 k' <;> simp [h1, hn, e0, hn', hg, hs']
    | false =>
      cases hg : goodOp k s a b <;> cases hn' : isNone4 k' s' a' b' <;> cases hg' : goodOp k' s' a' b' <;> cases hs' : isSum1 k' <;> cases hs0 : isSum1 k <;> cases he : same4 k' s' a' b' k s a b <;> simp [h1, hn, hg, hn', hg', hs', hs0, he]
      all_goals (exfalso; obtain ⟨rfl, rfl, rfl, rfl⟩ := same4_iff.1 he; simp_all)
  · simp [h1]
theorem iGoodLazy_eq (n : Nat) (z k s a b k' s' a' b' : Int) : impl_GoodLazy.f (n + 2) z k s a b k' s' a' b' = some (goodLazy z k s a b k' s' a' b') := by
  unfold impl_GoodLazy.f goodLazy
  have hs : ∀ x y u v : Int, (x == k && (y == s && (u == a && (v == b)))) = same4 x y u v k s a b := fun _ _ _ _ => rfl
  have hz : ∀ x y u v : Int, (x == 0 && (y == 0 && (u == 0 && (v == 0)))) = isNone4 x y u v := fun _ _ _ _ => rfl
  simp only [areFlags_eq, not_none_eq, iGoodOp_eq, iSum_eq, Option.bind_some, impl_GoodLazy.j0, impl_GoodLazy.j1, hs, hz]
  by_cases h1 : 0 ≤ z ∧ z ≤ 31
  · cases hn : isNone4 k s a b <;> cases hg : goodOp k s a b <;> cases hn' : isNone4 k' s' a' b' <;> cases hg' : goodOp k' s' a' b' <;> cases hs' : isSum1 k' <;> cases hs0 : isSum1 k <;> cases he : same4 k' s' a' b' k s a b <;> simp [h1, hn, hg, hn', hg', hs', hs0, he]
  · simp [h1]
theorem eqFlagOp_self (k s a b : Int) : laws_eqFlagOp.f k s a b k s a b = some true := by simp [laws_eqFlagOp.f]
theorem eqLazy_self (z k s a b k' s' a' b' : Int) : laws_eqLazy.f z k s a b k' s' a' b' z k s a b k' s' a' b' = some true := by simp [laws_eqLazy.f, eqFlagOp_self]
theorem note_same (n : Nat) (z k s a b k' s' a' b' x y u v : Int) :
    ∃ r, spec_NoteFlagOp.f (n + 2) z k s a b k' s' a' b' x y u v = some r ∧ impl_NoteFlagOp.f (n + 2) z k s a b k' s' a' b' x y u v = some r := by
  unfold spec_NoteFlagOp.f impl_NoteFlagOp.f spec_l13Note.f impl_noted.f
  simp only [lGoodLazy_eq, iGoodLazy_eq, lGoodOp_eq, iGoodOp_eq, lSum_eq, iSum_eq, Option.bind_some]
  cases goodLazy z k s a b k' s' a' b' <;> cases goodOp x y u v <;> cases isSum1 x <;> exact ⟨_, rfl, rfl⟩
theorem FnExactNoteFlagOp : ∀ (a0_0 : Int) (a0_1 : Int) (a0_2 : Int) (a0_3 : Int) (a0_4 : Int) (a0_5 : Int) (a0_6 : Int) (a0_7 : Int) (a0_8 : Int) (a1_0 : Int) (a1_1 : Int) (a1_2 : Int) (a1_3 : Int), (Lit.int .i64 a0_0).wf = true → (Lit.int .i64 a0_1).wf = true → (Lit.int .i64 a0_2).wf = true → (Lit.int .i64 a0_3).wf = true → (Lit.int .i64 a0_4).wf = true → (Lit.int .i64 a0_5).wf = true → (Lit.int .i64 a0_6).wf = true → (Lit.int .i64 a0_7).wf = true → (Lit.int .i64 a0_8).wf = true → (Lit.int .i64 a1_0).wf = true → (Lit.int .i64 a1_1).wf = true → (Lit.int .i64 a1_2).wf = true → (Lit.int .i64 a1_3).wf = true → ∃ k, laws_FnExactNoteFlagOp.f k a0_0 a0_1 a0_2 a0_3 a0_4 a0_5 a0_6 a0_7 a0_8 a1_0 a1_1 a1_2 a1_3 = some true := by
  intro a0 a1 a2 a3 a4 a5 a6 a7 a8 b0 b1 b2 b3 _ _ _ _ _ _ _ _ _ _ _ _ _
  obtain ⟨r, h1, h2⟩ := note_same 1 a0 a1 a2 a3 a4 a5 a6 a7 a8 b0 b1 b2 b3
  refine ⟨3, ?_⟩
  unfold laws_FnExactNoteFlagOp.f laws_toLazy.f laws_toFlagOp.f
  simp only [Option.bind_some]
  rw [h1, h2]
  simp only [Option.bind_some, eqLazy_self]
  simp

end Go.Proofs.Ytaalmfjpdgdnaaa.Pure
