/- For all whole numbers a, b of 64 bits: the program's MulBooth(a, b) and the reference's, as plain functions, end and answer the same. No condition. -/
import Derived.Test.YtaalmfjpdgdnaaaPFnExactMulBoothx2
import Derived.Test.YtaalmfjpdgdnaaaMath
set_option linter.unusedVariables false
set_option linter.unusedSimpArgs false
namespace Go.Proofs.Ytaalmfjpdgdnaaa.Pure
open Go.RowKit Go.Proofs.Ytaalmfjpdgdnaaa.PFnExactMulBooth Go.Proofs.YtaalmfjpdgdnaaaW.PrintWords Go.Proofs.YtaalmfjpdgdnaaaW.PrintLast Go.Proofs.Ytaalmfjpdgdnaaa.Math

theorem l1In_eq (a b c : Int) : spec_l1In.f a b c = some (decide (b ≤ a ∧ a ≤ c)) := by
  unfold spec_l1In.f
  by_cases h : b ≤ a <;> simp [h]
theorem within_eq (a b c : Int) : impl_within.f a b c = some (decide (b ≤ a ∧ a ≤ c)) := by
  unfold impl_within.f
  by_cases h : b ≤ a <;> simp [h]
theorem l6Word_eq (a : Int) : spec_l6Word.f a = some (decide (0 ≤ a ∧ a ≤ 65535)) := by
  unfold spec_l6Word.f
  rw [l1In_eq]
  rfl
theorem isWord_eq (a : Int) : impl_isWord.f a = some (decide (0 ≤ a ∧ a ≤ 65535)) := by
  unfold impl_isWord.f
  rw [within_eq]
  rfl
/-- A word as a number with a sign, as Go reckons it. -/
def sgn2 (a : Int) : Int := if a ≥ wrap64 (Int.tdiv 65536 2) then wrap64 (a - 65536) else a
theorem top2 : spec_l1Top.f 2 = some 65536 := by decide +kernel
theorem limit2 : impl_limitOf.f 2 = some 65536 := by decide +kernel
theorem lsigned2 (a : Int) : spec_l1Signed.f 2 a = some (sgn2 a) := by
  unfold spec_l1Signed.f sgn2
  rw [top2]
  simp only [Option.bind_some]
  split <;> rfl
theorem signed2 (a : Int) : impl_signedOf.f 2 a = some (sgn2 a) := by
  unfold impl_signedOf.f sgn2
  rw [limit2]
  simp only [Option.bind_some]
  split <;> rfl
theorem booth_loop (v : Int) : ∀ (d i : Nat) (l : List Int) (a : Int), i + d = 16 → l.length = i →
    ∃ r : List Int, r.length = 16 ∧ ∀ k, d < k → spec_l9Booth.l0 k v l a (i : Int) = some r ∧ impl_BoothDigits.l0 k v l a (i : Int) = some (r, true) := by
  intro d
  induction d with
  | zero =>
    intro i l a hi hl
    refine ⟨l, by omega, fun k hk => ?_⟩
    obtain ⟨k, rfl⟩ : ∃ m, k = m + 1 := ⟨k - 1, by omega⟩
    simp only [spec_l9Booth.l0, impl_BoothDigits.l0]
    rw [if_neg (by omega), if_neg (by omega)]
    exact ⟨rfl, rfl⟩
  | succ d ih =>
    intro i l a hi hl
    obtain ⟨r, hr, h⟩ := ih (i + 1) (l ++ [wrap64 (a - shr .i64 v (i : Int) % 2)]) (shr .i64 v (i : Int) % 2) (by omega) (by simp [hl])
    refine ⟨r, hr, fun k hk => ?_⟩
    obtain ⟨k, rfl⟩ : ∃ m, k = m + 1 := ⟨k - 1, by omega⟩
    obtain ⟨h1, h2⟩ := h k (by omega)
    have hu : IntKind.u64.wrap (i : Int) = i := u64_id (by omega) (by omega)
    have hw : wrap64 ((i : Int) + 1) = ((i + 1 : Nat) : Int) := by rw [wrap64_id (by omega) (by omega)]; omega
    simp only [spec_l9Booth.l0, impl_BoothDigits.l0]
    rw [hu, hw, and_1]
    rw [if_pos (by omega), if_pos (by omega), if_pos (by omega), if_pos (by omega), if_pos (by omega), if_pos (by omega)]
    exact ⟨h1, h2⟩
theorem booth (v : Int) : ∃ r : List Int, r.length = 16 ∧ ∀ k, 16 < k → spec_l9Booth.f k v = some r ∧ impl_BoothDigits.l0 k v [] 0 0 = some (r, true) := by
  obtain ⟨r, hr, h⟩ := booth_loop v 16 0 [] 0 rfl rfl
  exact ⟨r, hr, fun k hk => h k hk⟩
theorem wrap64_emod (a : Int) : wrap64 a % 18446744073709551616 = a % 18446744073709551616 := by unfold wrap64; omega
theorem wrap64_congr {a b : Int} (h : a % 18446744073709551616 = b % 18446744073709551616) : wrap64 a = wrap64 b := by unfold wrap64; omega
theorem mul_turn (d s p : Int) : wrap64 (wrap64 (d * s) * p) = wrap64 (wrap64 (s * p) * d) := by
  apply wrap64_congr
  rw [Int.mul_emod, wrap64_emod, ← Int.mul_emod, Int.mul_emod (wrap64 (s * p)), wrap64_emod, ← Int.mul_emod]
  congr 1
  rw [Int.mul_assoc, Int.mul_comm d]
theorem shl_wrap (x y : Int) : shl .i64 x y = wrap64 (x * 2 ^ min y.toNat 64) := by unfold shl; rw [i64wrap]; rfl
theorem mul_loop (a : Int) (l : List Int) (hl : l.length = 16) : ∀ (d i : Nat) (s : Int), i + d = 16 →
    ∃ r : Int, ∀ k, d < k → spec_MulBooth.l0 k a s l 16 (i : Int) = ((spec_l9Two.f r).bind fun t => some (t.1, t.2, true)) ∧ impl_MulBooth.l0 k a s l 16 (i : Int) = ((impl_twoWords.f r).bind fun t => some (t.1, t.2, true)) := by
  intro d
  induction d with
  | zero =>
    intro i s hi
    refine ⟨s, fun k hk => ?_⟩
    obtain ⟨k, rfl⟩ : ∃ m, k = m + 1 := ⟨k - 1, by omega⟩
    simp only [spec_MulBooth.l0, impl_MulBooth.l0]
    rw [if_neg (by omega), if_neg (by omega)]
    exact ⟨rfl, rfl⟩
  | succ d ih =>
    intro i s hi
    obtain ⟨r, h⟩ := ih (i + 1) (wrap64 (s + wrap64 (shl .i64 (sgn2 a) (i : Int) * rd l (i : Int)))) (by omega)
    refine ⟨r, fun k hk => ?_⟩
    obtain ⟨k, rfl⟩ : ∃ m, k = m + 1 := ⟨k - 1, by omega⟩
    obtain ⟨h1, h2⟩ := h k (by omega)
    have hu : IntKind.u64.wrap (i : Int) = i := u64_id (by omega) (by omega)
    have hw : wrap64 ((i : Int) + 1) = ((i + 1 : Nat) : Int) := by rw [wrap64_id (by omega) (by omega)]; omega
    have hm : shl .i64 (wrap64 (rd l (i : Int) * sgn2 a)) (i : Int) = wrap64 (shl .i64 (sgn2 a) (i : Int) * rd l (i : Int)) := by
      rw [shl_wrap, shl_wrap]
      exact mul_turn _ _ _
    simp only [spec_MulBooth.l0, impl_MulBooth.l0, spec_l9Signed.f, lsigned2, signed2, Option.bind_some]
    rw [hu, hw, hm]
    rw [if_pos (by omega), if_pos (by omega), if_pos (by omega), if_pos (by omega), if_pos (by omega), if_pos (by omega), if_pos (by omega)]
    exact ⟨h1, h2⟩
theorem FnExactMulBooth : laws_FnExactMulBooth.Pure := by
  intro a0 a1 _ _
  obtain ⟨l, hl, hb⟩ := booth a1
  obtain ⟨r, hr⟩ := mul_loop a0 l hl 16 0 0 rfl
  have hk : ∀ k, 40 ≤ k → laws_FnExactMulBooth.f k a0 a1 = some true := by
    intro k hk
    obtain ⟨k, rfl⟩ : ∃ m, k = m + 1 := ⟨k - 1, by omega⟩
    have b1 := (hb (k + 1) (by omega)).2
    have b2 := (hb k (by omega)).1
    obtain ⟨h1, h2⟩ := hr k (by omega)
    unfold laws_FnExactMulBooth.f spec_MulBooth.f impl_MulBooth.f impl_BoothDigits.f
    simp only [l6Word_eq, isWord_eq, Option.bind_some]
    by_cases h0 : 0 ≤ a0 ∧ a0 ≤ 65535
    · by_cases h3 : 0 ≤ a1 ∧ a1 ≤ 65535
      · have h1' : spec_MulBooth.l0 k a0 0 l 16 0 = _ := h1
        have h2' : impl_MulBooth.l0 k a0 0 l 16 0 = _ := h2
        simp only [h0, h3, b1, if_true, decide_true, and_self, Option.bind_some, Bool.not_true, spec_MulBooth.j0, impl_MulBooth.j0, b2, hl, Bool.false_eq_true, if_false]
        rw [show ((16 : Nat) : Int) = 16 from rfl, h1', h2']
        simp [spec_l9Two.f, impl_twoWords.f]
      · simp [h0, h3, spec_MulBooth.j0, impl_MulBooth.j0]
    · by_cases h3 : 0 ≤ a1 ∧ a1 ≤ 65535
      · simp [h0, h3, b1, spec_MulBooth.j0, impl_MulBooth.j0]
      · simp [h0, h3, spec_MulBooth.j0, impl_MulBooth.j0]
  exact ⟨40, hk 40 (by decide)⟩

end Go.Proofs.Ytaalmfjpdgdnaaa.Pure
