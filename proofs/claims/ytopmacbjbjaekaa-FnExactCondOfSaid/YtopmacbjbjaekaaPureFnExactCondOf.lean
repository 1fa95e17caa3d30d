/- The law FnExactCondOf as a plain function answers true for all arguments (numbers of 64 bits, lists of at most 2^63 - 1 elements). No other condition. -/
import Derived.Test.YtopmacbjbjaekaaHx22
import Derived.Test.YtopmacbjbjaekaaMath
set_option linter.unusedVariables false
set_option linter.unusedSimpArgs false
namespace Go.Proofs.Ytopmacbjbjaekaa.Pure
open Go.RowKit Go.Proofs.Ytopmacbjbjaekaa.H Go.Proofs.YtopmacbjbjaekaaW.PrintWords Go.Proofs.YtopmacbjbjaekaaW.PrintLast Go.Proofs.Ytopmacbjbjaekaa.Math

theorem l1In_eq (a b c : Int) : spec_l1In.f a b c = some (decide (b ≤ a ∧ a ≤ c)) := by
  unfold spec_l1In.f
  by_cases h : b ≤ a <;> simp [h]
theorem within_eq (a b c : Int) : impl_within.f a b c = some (decide (b ≤ a ∧ a ≤ c)) := by
  unfold impl_within.f
  by_cases h : b ≤ a <;> simp [h]
theorem lSize_eq (s : Int) : spec_l1Size.f s = some (decide (s = 1 ∨ s = 2)) := by
  unfold spec_l1Size.f
  by_cases h : s = 1
  · simp [h]
  · by_cases h2 : s = 2 <;> simp [h, h2]
theorem isSize_eq (s : Int) : impl_isSize.f s = some (decide (s = 1 ∨ s = 2)) := by
  unfold impl_isSize.f
  by_cases h : s = 1
  · simp [h]
  · by_cases h2 : s = 2 <;> simp [h, h2]
/-- How many values a size has. -/
def top (s : Int) : Int := if s = 1 then 256 else 65536
theorem lTop_1 : spec_l1Top.f 1 = some 256 := by decide +kernel
theorem lTop_2 : spec_l1Top.f 2 = some 65536 := by decide +kernel
theorem limit_1 : impl_limitOf.f 1 = some 256 := by decide +kernel
theorem limit_2 : impl_limitOf.f 2 = some 65536 := by decide +kernel
theorem lTop_eq {s : Int} (h : s = 1 ∨ s = 2) : spec_l1Top.f s = some (top s) := by
  rcases h with rfl | rfl
  · exact lTop_1
  · exact lTop_2
theorem limit_eq {s : Int} (h : s = 1 ∨ s = 2) : impl_limitOf.f s = some (top s) := by
  rcases h with rfl | rfl
  · exact limit_1
  · exact limit_2
theorem top_le {s : Int} : 256 ≤ top s ∧ top s ≤ 65536 := by unfold top; split <;> omega
/-- Whether v is a value of size s. -/
def isVal (s v : Int) : Bool := decide ((s = 1 ∨ s = 2) ∧ 0 ≤ v ∧ v < top s)
theorem isVal_iff {s v : Int} : isVal s v = true ↔ (s = 1 ∨ s = 2) ∧ 0 ≤ v ∧ v < top s := by simp [isVal]
theorem lValue_eq (s v : Int) : spec_l1Value.f s v = some (isVal s v) := by
  unfold spec_l1Value.f isVal
  rw [lSize_eq]
  by_cases h : s = 1 ∨ s = 2
  · have ht := @top_le s
    simp only [Option.bind_some, decide_eq_true_eq, h, if_true, lTop_eq h, l1In_eq, wrap64_id (n := top s - 1) (by omega) (by omega), true_and]
    congr 1
    rw [decide_eq_decide]
    omega
  · simp [h]
theorem isValue_eq (s v : Int) : impl_isValue.f s v = some (isVal s v) := by
  unfold impl_isValue.f isVal
  rw [isSize_eq]
  by_cases h : s = 1 ∨ s = 2
  · have ht := @top_le s
    simp only [Option.bind_some, decide_eq_true_eq, h, if_true, limit_eq h, within_eq, wrap64_id (n := top s - 1) (by omega) (by omega), true_and]
    congr 1
    rw [decide_eq_decide]
    omega
  · simp [h]
/-- Whether a flag operation is good. -/
def goodOp (k s a b : Int) : Bool := decide (1 ≤ k ∧ k ≤ 5) && isVal s a && isVal s b && (decide (k ≤ 3) || b == 0)
theorem lGoodOp_eq (k s a b : Int) : spec_GoodFlagOp.f k s a b = some (goodOp k s a b) := by
  unfold spec_GoodFlagOp.f goodOp
  simp only [lValue_eq, l1In_eq, Option.bind_some, decide_eq_true_eq]
  by_cases h1 : 1 ≤ k ∧ k ≤ 5 <;> cases h2 : isVal s a <;> cases h3 : isVal s b <;> by_cases h4 : k ≤ 3 <;> simp [h1, h2, h3, h4]
theorem iGoodOp_eq (k s a b : Int) : impl_GoodFlagOp.f k s a b = some (goodOp k s a b) := by
  unfold impl_GoodFlagOp.f goodOp
  simp only [isValue_eq, within_eq, Option.bind_some, decide_eq_true_eq]
  by_cases h1 : 1 ≤ k ∧ k ≤ 5 <;> cases h2 : isVal s a <;> cases h3 : isVal s b <;> by_cases h4 : k ≤ 3 <;> simp [h1, h2, h3, h4]
theorem lFlags_eq (a : Int) : spec_l1Flags.f a = some (decide (0 ≤ a ∧ a ≤ 31)) := by
  unfold spec_l1Flags.f
  rw [l1In_eq]
  rfl
theorem areFlags_eq (a : Int) : impl_areFlags.f a = some (decide (0 ≤ a ∧ a ≤ 31)) := by
  unfold impl_areFlags.f
  rw [within_eq]
  rfl
def isNone4 (k s a b : Int) : Bool := k == 0 && (s == 0 && (a == 0 && (b == 0)))
def isSum1 (k : Int) : Bool := k == 1 || k == 2
def same4 (k s a b k' s' a' b' : Int) : Bool := k == k' && (s == s' && (a == a' && (b == b')))
theorem good_kind {k s a b : Int} (h : goodOp k s a b = true) : 1 ≤ k ∧ k ≤ 5 := by
  unfold goodOp at h
  simp only [Bool.and_eq_true, decide_eq_true_eq] at h
  exact h.1.1.1
/-- Whether a note is good. -/
theorem lSum_eq (k s a b : Int) : spec_l13Sum.f k s a b = some (isSum1 k) := by
  unfold spec_l13Sum.f isSum1
  by_cases h : k = 1 <;> simp [h]
theorem iSum_eq (k : Int) : impl_isSum.f k = some (isSum1 k) := by
  unfold impl_isSum.f isSum1
  by_cases h : k = 1 <;> simp [h]
theorem none_eq (k s a b : Int) : spec_l13None.f k s a b = some (isNone4 k s a b) := rfl
theorem none_iff {k s a b : Int} : isNone4 k s a b = true ↔ k = 0 ∧ s = 0 ∧ a = 0 ∧ b = 0 := by simp [isNone4]
theorem not_none_eq (k s a b : Int) : (!(k == 0) || (!(s == 0) || (!(a == 0) || (!(b == 0))))) = !isNone4 k s a b := by simp [isNone4, Bool.not_and]
theorem same4_zero (k s a b : Int) : same4 k s a b 0 0 0 0 = isNone4 k s a b := rfl
def goodLazy (z k s a b k' s' a' b' : Int) : Bool :=
  decide (0 ≤ z ∧ z ≤ 31) && (isNone4 k s a b || goodOp k s a b) && (isNone4 k' s' a' b' || (goodOp k' s' a' b' && isSum1 k')) &&
    (if isNone4 k s a b then isNone4 k' s' a' b' else (!isSum1 k || same4 k' s' a' b' k s a b))
theorem sum_none {k s a b : Int} (h : isNone4 k s a b = true) : isSum1 k = false := by
  obtain ⟨rfl, _⟩ := none_iff.1 h
  rfl
theorem same4_iff {k s a b k' s' a' b' : Int} : same4 k s a b k' s' a' b' = true ↔ k = k' ∧ s = s' ∧ a = a' ∧ b = b' := by simp [same4]
theorem same4_comm (k s a b k' s' a' b' : Int) : same4 k s a b k' s' a' b' = same4 k' s' a' b' k s a b := by
  rw [Bool.eq_iff_iff, same4_iff, same4_iff]
  omega
theorem lGoodLazy_eq (n : Nat) (z k s a b k' s' a' b' : Int) : spec_GoodLazy.f (n + 1) z k s a b k' s' a' b' = some (goodLazy z k s a b k' s' a' b') := by
  unfold spec_GoodLazy.f goodLazy
  simp only [lFlags_eq, none_eq, lGoodOp_eq, lSum_eq, Option.bind_some, spec_GoodLazy.j0]
  have hs : (k == k' && (s == s' && (a == a' && (b == b')))) = same4 k' s' a' b' k s a b := (same4_comm _ _ _ _ _ _ _ _)
  simp only [hs]
  by_cases h1 : 0 ≤ z ∧ z ≤ 31
  · cases hn : isNone4 k s a b with
    | true =>
      have e0 := sum_none hn
      cases hn' : isNone4 k' s' a' b' <;> cases hg : goodOp k' s' a' b' <;> cases hs' : isSum1 k' <;> simp [h1, hn, e0, hn', hg, hs']
    | false =>
      cases hg : goodOp k s a b <;> cases hn' : isNone4 k' s' a' b' <;> cases hg' : goodOp k' s' a' b' <;> cases hs' : isSum1 k' <;> cases hs0 : isSum1 k <;> cases he : same4 k' s' a' b' k s a b <;> simp [h1, hn, hg, hn', hg', hs', hs0, he]
      all_goals (exfalso; obtain ⟨rfl, rfl, rfl, rfl⟩ := same4_iff.1 he; simp_all)
  · simp [h1]
theorem iGoodLazy_eq (n : Nat) (z k s a b k' s' a' b' : Int) : impl_GoodLazy.f (n + 2) z k s a b k' s' a' b' = some (goodLazy z k s a b k' s' a' b') := by
  unfold impl_GoodLazy.f goodLazy
  have hs : ∀ x y u v : Int, (x == k && (y == s && (u == a && (v == b)))) = same4 x y u v k s a b := fun _ _ _ _ => rfl
  have hz : ∀ x y u v : Int, (x == 0 && (y == 0 && (u == 0 && (v == 0)))) = isNone4 x y u v := fun _ _ _ _ => rfl
  simp only [areFlags_eq, not_none_eq, iGoodOp_eq, iSum_eq, Option.bind_some, impl_GoodLazy.j0, impl_GoodLazy.j1, hs, hz]
  by_cases h1 : 0 ≤ z ∧ z ≤ 31
  · cases hn : isNone4 k s a b <;> cases hg : goodOp k s a b <;> cases hn' : isNone4 k' s' a' b' <;> cases hg' : goodOp k' s' a' b' <;> cases hs' : isSum1 k' <;> cases hs0 : isSum1 k <;> cases he : same4 k' s' a' b' k s a b <;> simp [h1, hn, hg, hn', hg', hs', hs0, he]
  · simp [h1]
theorem lFlag_eq (c : Bool) (f : Int) : spec_l1Flag.f c f = some (if c then f else 0) := by
  unfold spec_l1Flag.f
  cases c <;> rfl
theorem flag_eq (c : Bool) (f : Int) : impl_flag.f c f = some (if c then f else 0) := by
  unfold impl_flag.f
  cases c <;> rfl
/-- The half of how many values a size has, as Go reckons it. -/
def half (s : Int) : Int := wrap64 (Int.tdiv (top s) 2)
theorem half_eq {s : Int} (h : s = 1 ∨ s = 2) : half s = if s = 1 then 128 else 32768 := by
  rcases h with rfl | rfl <;> decide +kernel
def sgn (s v : Int) : Int := if v ≥ half s then wrap64 (v - top s) else v
theorem lSigned_eq {s : Int} (h : s = 1 ∨ s = 2) (v : Int) : spec_l1Signed.f s v = some (sgn s v) := by
  unfold spec_l1Signed.f sgn half
  rw [lTop_eq h]
  simp only [Option.bind_some]
  split <;> rfl
theorem iSigned_eq {s : Int} (h : s = 1 ∨ s = 2) (v : Int) : impl_signedOf.f s v = some (sgn s v) := by
  unfold impl_signedOf.f sgn half
  rw [limit_eq h]
  simp only [Option.bind_some]
  split <;> rfl
/-- FlagZ and FlagN of a value. -/
def zn (s v : Int) : Int := bits .or .i64 (if (v == 0) = true then 4 else 0) (if decide (v ≥ half s) = true then 8 else 0)
theorem lZn_eq {s : Int} (h : s = 1 ∨ s = 2) (v : Int) : spec_l1Zn.f s v = some (zn s v) := by
  unfold spec_l1Zn.f zn half
  simp only [lTop_eq h, lFlag_eq, Option.bind_some]
theorem signs_eq {s : Int} (h : s = 1 ∨ s = 2) (v : Int) : impl_signs.f s v = some (zn s v) := by
  unfold impl_signs.f zn half
  simp only [limit_eq h, flag_eq, Option.bind_some]
theorem zn_form (s v : Int) : ∃ i j : Bool, zn s v = bits .or .i64 (if i then 4 else 0) (if j then 8 else 0) := ⟨(v == 0), decide (v ≥ half s), rfl⟩
/-- The flags of a sum or a difference. -/
def sumF (c o : Bool) (z : Int) : Int := bits .or .i64 (bits .or .i64 (if c then 17 else 0) (if o then 2 else 0)) z
theorem sumF_range : ∀ c o i j : Bool, 0 ≤ sumF c o (bits .or .i64 (if i then 4 else 0) (if j then 8 else 0)) ∧ sumF c o (bits .or .i64 (if i then 4 else 0) (if j then 8 else 0)) ≤ 31 := by decide +kernel
theorem sumF_31 (c o : Bool) (s v : Int) : 0 ≤ sumF c o (zn s v) ∧ sumF c o (zn s v) ≤ 31 := by
  obtain ⟨i, j, e⟩ := zn_form s v
  rw [e]
  exact sumF_range c o i j
def addV (s a b : Int) : Int := bits .and .i64 (wrap64 (wrap64 (a + b) + 0)) (wrap64 (top s - 1))
def addF (s a b : Int) : Int := sumF (wrap64 (wrap64 (a + b) + 0) != addV s a b) (wrap64 (wrap64 (sgn s a + sgn s b) + 0) != sgn s (addV s a b)) (zn s (addV s a b))
def subV (s a b : Int) : Int := bits .and .i64 (wrap64 (wrap64 (a - b) - 0)) (wrap64 (top s - 1))
def subF (s a b : Int) : Int := sumF (decide (wrap64 (wrap64 (a - b) - 0) < 0)) (wrap64 (wrap64 (sgn s a - sgn s b) - 0) != sgn s (subV s a b)) (zn s (subV s a b))
theorem lAdd_eq {s : Int} (h : s = 1 ∨ s = 2) (a b : Int) : spec_l1Add.f s 0 a b = some (addV s a b, addF s a b) := by
  unfold spec_l1Add.f addF addV sumF
  simp only [lTop_eq h, lSigned_eq h, lFlag_eq, lZn_eq h, Option.bind_some]
theorem iAdd_eq {s : Int} (h : s = 1 ∨ s = 2) (a b : Int) : impl_addFlags.f s 0 a b = some (addV s a b, addF s a b) := by
  unfold impl_addFlags.f impl_reckoned.f addF addV sumF
  simp only [limit_eq h, iSigned_eq h, flag_eq, signs_eq h, Option.bind_some]
theorem lSub_eq {s : Int} (h : s = 1 ∨ s = 2) (a b : Int) : spec_l1Sub.f s 0 a b = some (subV s a b, subF s a b) := by
  unfold spec_l1Sub.f subF subV sumF
  simp only [lTop_eq h, lSigned_eq h, lFlag_eq, lZn_eq h, Option.bind_some]
theorem mask_top {s : Int} (h : s = 1 ∨ s = 2) (n : Int) : bits .and .i64 n (wrap64 (top s - 1)) = n % top s := by
  rcases h with rfl | rfl
  · rw [show wrap64 (top 1 - 1) = 255 from by decide +kernel, and_255]; rfl
  · rw [show wrap64 (top 2 - 1) = 65535 from by decide +kernel, and_65535]; rfl
theorem sub_carry {s a b : Int} (h : s = 1 ∨ s = 2) (ha : 0 ≤ a ∧ a < top s) (hb : 0 ≤ b ∧ b < top s) : (wrap64 (wrap64 (a - b) - 0) != subV s a b) = decide (wrap64 (wrap64 (a - b) - 0) < 0) := by
  have ht := @top_le s
  have e : wrap64 (wrap64 (a - b) - 0) = a - b := by
    rw [wrap64_id (n := a - b) (by omega) (by omega), wrap64_id (by omega) (by omega)]
    omega
  unfold subV
  rw [e, mask_top h, Bool.eq_iff_iff, bne_iff_ne, decide_eq_true_eq]
  constructor
  · intro hne
    rcases Int.lt_or_le (a - b) 0 with h1 | h1
    · exact h1
    · exact absurd (Int.emod_eq_of_lt h1 (by omega)).symm hne
  · intro hlt he
    have := Int.emod_nonneg (a - b) (show top s ≠ 0 by omega)
    omega
theorem iSub_eq {s a b : Int} (h : s = 1 ∨ s = 2) (ha : 0 ≤ a ∧ a < top s) (hb : 0 ≤ b ∧ b < top s) : impl_subFlags.f s 0 a b = some (subV s a b, subF s a b) := by
  have hc := sub_carry h ha hb
  unfold impl_subFlags.f impl_reckoned.f subF
  simp only [limit_eq h, iSigned_eq h, flag_eq, signs_eq h, Option.bind_some]
  rw [← hc]
  rfl
theorem low_15 : ∀ f : Fin 32, bits .and .i64 (f.val : Int) 15 = (f.val : Int) % 16 ∧ bits .andNot .i64 (f.val : Int) 16 = (f.val : Int) % 16 ∧ bits .and .i64 (f.val : Int) 16 = (f.val : Int) / 16 * 16 := by decide +kernel
theorem bits_31 {f : Int} (h0 : 0 ≤ f) (h1 : f ≤ 31) : bits .and .i64 f 15 = f % 16 ∧ bits .andNot .i64 f 16 = f % 16 ∧ bits .and .i64 f 16 = f / 16 * 16 := by
  obtain ⟨n, rfl⟩ := Int.eq_ofNat_of_zero_le h0
  exact low_15 ⟨n, by omega⟩
theorem or_join_all : ∀ (i : Fin 2) (j : Fin 16), bits .or .i64 (j.val : Int) ((i.val : Int) * 16) = (j.val : Int) + (i.val : Int) * 16 ∧ bits .or .i64 ((i.val : Int) * 16) (j.val : Int) = (j.val : Int) + (i.val : Int) * 16 := by decide +kernel
theorem or_join {i j : Int} (hi : 0 ≤ i ∧ i ≤ 1) (hj : 0 ≤ j ∧ j ≤ 15) : bits .or .i64 j (i * 16) = j + i * 16 ∧ bits .or .i64 (i * 16) j = j + i * 16 := by
  obtain ⟨n, rfl⟩ := Int.eq_ofNat_of_zero_le hi.1
  obtain ⟨m, rfl⟩ := Int.eq_ofNat_of_zero_le hj.1
  exact or_join_all ⟨n, by omega⟩ ⟨m, by omega⟩
theorem zn_all : ∀ i j : Bool, 0 ≤ bits .or .i64 (if i then 4 else 0) (if j then 8 else 0) ∧ bits .or .i64 (if i then 4 else 0) (if j then 8 else 0) ≤ 15 := by decide +kernel
theorem zn_15 (s v : Int) : 0 ≤ zn s v ∧ zn s v ≤ 15 := by
  obtain ⟨i, j, e⟩ := zn_form s v
  rw [e]
  exact zn_all i j
theorem turn_all : ∀ (c i j x : Bool), bits .or .i64 (bits .or .i64 (bits .or .i64 (if c then 1 else 0) (bits .or .i64 (if i then 4 else 0) (if j then 8 else 0))) 0) (if x then 16 else 0) = bits .or .i64 (bits .or .i64 (bits .or .i64 (wrap64 ((if c then 1 else 0) * 1)) (if x then 16 else 0)) 0) (bits .or .i64 (if i then 4 else 0) (if j then 8 else 0)) ∧
    0 ≤ bits .or .i64 (bits .or .i64 (if c then 1 else 0) (bits .or .i64 (if i then 4 else 0) (if j then 8 else 0))) 0 ∧ bits .or .i64 (bits .or .i64 (if c then 1 else 0) (bits .or .i64 (if i then 4 else 0) (if j then 8 else 0))) 0 ≤ 15 := by decide +kernel
/-- What a turn's flags are but for FlagX. -/
def turnF (c : Bool) (z : Int) : Int := bits .or .i64 (bits .or .i64 (if c then 1 else 0) z) 0
theorem turn_same (c : Bool) (s v : Int) {x : Int} (hx : 0 ≤ x ∧ x ≤ 1) : bits .or .i64 (turnF c (zn s v)) (x * 16) = turnF c (zn s v) + x * 16 ∧ bits .or .i64 (bits .or .i64 (bits .or .i64 (wrap64 ((if c then 1 else 0) * 1)) (x * 16)) 0) (zn s v) = turnF c (zn s v) + x * 16 ∧ 0 ≤ turnF c (zn s v) ∧ turnF c (zn s v) ≤ 15 := by
  obtain ⟨i, j, e⟩ := zn_form s v
  rw [e]
  have hxb : ∃ y : Bool, x * 16 = if y then 16 else 0 := by
    rcases (by omega : x = 0 ∨ x = 1) with rfl | rfl
    · exact ⟨false, rfl⟩
    · exact ⟨true, rfl⟩
  obtain ⟨y, hy⟩ := hxb
  obtain ⟨h1, h2, h3⟩ := turn_all c i j y
  have h4 := (or_join (i := x) (j := turnF c (bits .or .i64 (if i then 4 else 0) (if j then 8 else 0))) hx ⟨h2, h3⟩).1
  refine ⟨h4, ?_, h2, h3⟩
  rw [hy, ← h1, ← hy]
  exact h4
theorem shr_top {s v : Int} (h : s = 1 ∨ s = 2) (hv : 0 ≤ v ∧ v < top s) : shr .i64 v (wrap64 (wrap64 (8 * s) - 1)) = if decide (v ≥ half s) then 1 else 0 := by
  rcases h with rfl | rfl
  · rw [show wrap64 (wrap64 (8 * 1) - 1) = 7 from by decide +kernel, show shr .i64 v 7 = v / 128 from rfl, show half 1 = 128 from by decide +kernel]
    have : top 1 = 256 := rfl
    by_cases hc : v ≥ 128 <;> simp [hc] <;> omega
  · rw [show wrap64 (wrap64 (8 * 2) - 1) = 15 from by decide +kernel, show shr .i64 v 15 = v / 32768 from rfl, show half 2 = 32768 from by decide +kernel]
    have : top 2 = 65536 := rfl
    by_cases hc : v ≥ 32768 <;> simp [hc] <;> omega
theorem shift_cnt {s : Int} (h : s = 1 ∨ s = 2) : 0 ≤ wrap64 (wrap64 (8 * s) - 1) := by rcases h with rfl | rfl <;> decide +kernel
theorem twice_half {s : Int} (h : s = 1 ∨ s = 2) : wrap64 (wrap64 (2 * half s) - 1) = wrap64 (top s - 1) := by rcases h with rfl | rfl <;> decide +kernel
/-- The value behind a turn by one place to the left. -/
def turnV (s v : Int) : Int := bits .or .i64 (bits .and .i64 (wrap64 (v * 2)) (wrap64 (top s - 1))) (if decide (v ≥ half s) = true then 1 else 0)
theorem lTurn0 (k : Nat) (s fl v h c f g : Int) : spec_l3Once.j0 (k + 2) 4 s fl v h c f g = spec_l3Once.j2 k 4 s fl v h c f f := by
  rw [spec_l3Once.j0, if_neg (by decide), if_pos rfl, spec_l3Once.j1, if_pos (by decide)]
theorem lTurn2 (k : Nat) (s fl v h c f g : Int) : spec_l3Once.j2 (k + 1) 4 s fl v h c f g = spec_l3Once.j3 k 4 s fl h c f (bits .or .i64 (bits .and .i64 (wrap64 (v * 2)) (wrap64 (wrap64 (2 * h) - 1))) g) := by
  have hl : spec_l3Left.f 4 = some true := by decide +kernel
  rw [spec_l3Once.j2, hl, Option.bind_some, if_pos rfl]
theorem lTurn3 (k : Nat) {s : Int} (hs : s = 1 ∨ s = 2) (fl v h c f : Int) : spec_l3Once.j3 (k + 1) 4 s fl h c f v = some (v, bits .or .i64 (bits .or .i64 (bits .or .i64 f (zn s v)) 0) (bits .and .i64 fl 16)) := by
  rw [spec_l3Once.j3, lZn_eq hs, Option.bind_some, if_neg (by decide), lFlag_eq, Option.bind_some, if_pos rfl]
  rfl
theorem lTurn_eq (k : Nat) {s v fl : Int} (h : s = 1 ∨ s = 2) (hf : 0 ≤ fl ∧ fl ≤ 31) : spec_l3Once.f (k + 4) 4 s fl v = some (turnV s v, turnF (decide (v ≥ half s)) (zn s (turnV s v)) + fl / 16 * 16) := by
  have hl : spec_l3Left.f 4 = some true := by decide +kernel
  have hb := (bits_31 hf.1 hf.2).2.2
  have hx := (turn_same (decide (v ≥ half s)) s (turnV s v) (x := fl / 16) (by omega)).1
  have hh : wrap64 (Int.tdiv (top s) 2) = half s := rfl
  have hv : bits .or .i64 (bits .and .i64 (wrap64 (v * 2)) (wrap64 (wrap64 (2 * half s) - 1))) (if decide (v ≥ half s) = true then 1 else 0) = turnV s v := by
    rw [twice_half h]
    rfl
  unfold spec_l3Once.f
  rw [lTop_eq h, Option.bind_some, hh, lFlag_eq, Option.bind_some, hl, Option.bind_some, if_pos rfl, lTurn0 (k + 2), lTurn2 (k + 1), lTurn3 k h, hv, hb, ← hx]
  rfl
theorem iTurn0 (k : Nat) {s : Int} (hs : s = 1 ∨ s = 2) {fl v h c : Int} (hh : 0 ≤ h) : impl_shiftOnce.j0 (k + 2) 4 s fl v h c = impl_shiftOnce.j1 (k + 1) 4 s fl v h c (bits .or .i64 (bits .and .i64 (wrap64 (v * 2)) (wrap64 (top s - 1))) c) := by
  have hl : impl_isLeft.f 4 = some true := by decide +kernel
  have hc : impl_coming.f (k + 1) 4 s fl v c = some c := by
    rw [impl_coming.f, if_neg (by decide), if_pos rfl, impl_coming.j0, if_pos (by decide)]
  rw [impl_shiftOnce.j0, hc, Option.bind_some, if_pos hh, hl, Option.bind_some, if_pos rfl, limit_eq hs, Option.bind_some]
theorem iTurn1 (k : Nat) {s : Int} (hs : s = 1 ∨ s = 2) (fl v h c x : Int) : impl_shiftOnce.j1 (k + 2) 4 s fl v h c x = some (x, bits .or .i64 (bits .or .i64 (bits .or .i64 (wrap64 (c * 1)) (bits .and .i64 fl 16)) 0) (zn s x)) := by
  rw [impl_shiftOnce.j1, if_pos rfl, impl_shiftOnce.j2, if_pos rfl, if_neg (by decide), flag_eq, Option.bind_some, signs_eq hs, Option.bind_some]
  rfl
theorem iTurn_eq (k : Nat) {s v fl : Int} (h : s = 1 ∨ s = 2) (hv0 : 0 ≤ v ∧ v < top s) (hf : 0 ≤ fl ∧ fl ≤ 31) : impl_shiftOnce.f (k + 4) 4 s fl v = some (turnV s v, turnF (decide (v ≥ half s)) (zn s (turnV s v)) + fl / 16 * 16) := by
  have hl : impl_isLeft.f 4 = some true := by decide +kernel
  have hb := (bits_31 hf.1 hf.2).2.2
  have hx := (turn_same (decide (v ≥ half s)) s (turnV s v) (x := fl / 16) (by omega)).2.1
  have hv : bits .or .i64 (bits .and .i64 (wrap64 (v * 2)) (wrap64 (top s - 1))) (if decide (v ≥ half s) = true then 1 else 0) = turnV s v := rfl
  unfold impl_shiftOnce.f
  rw [hl, Option.bind_some, if_pos rfl, if_pos (shift_cnt h), shr_top h hv0, iTurn0 (k + 2) h (shift_cnt h), iTurn1 (k + 1) h, hv, hb, hx]
/-- Whether a kind is a sum's. -/
theorem isSum1_iff {k : Int} : isSum1 k = true ↔ k = 1 ∨ k = 2 := by simp [isSum1]
/-- What an operation makes of flags: a sum's flags, or four flags beside FlagX as it was. -/
def core (kd s a b : Int) : Int := if kd = 1 then addF s a b else if kd = 2 then subF s a b else if kd = 3 then subF s a b % 16 else if kd = 4 then zn s a else turnF (decide (a ≥ half s)) (zn s (turnV s a))
def madeI (fl kd s a b : Int) : Int := if isSum1 kd then core kd s a b else core kd s a b + fl / 16 * 16
theorem good_op_parts {k s a b : Int} (h : goodOp k s a b = true) : (1 ≤ k ∧ k ≤ 5) ∧ ((s = 1 ∨ s = 2) ∧ 0 ≤ a ∧ a < top s) ∧ 0 ≤ b ∧ b < top s := by
  unfold goodOp at h
  simp only [Bool.and_eq_true, decide_eq_true_eq, isVal_iff] at h
  exact ⟨h.1.1.1, h.1.1.2, h.1.2.2⟩
theorem core_range {k s a b : Int} : 0 ≤ core k s a b ∧ core k s a b ≤ 31 ∧ (isSum1 k = false → core k s a b ≤ 15) := by
  have h1 : 0 ≤ addF s a b ∧ addF s a b ≤ 31 := sumF_31 _ _ _ _
  have h2 : 0 ≤ subF s a b ∧ subF s a b ≤ 31 := sumF_31 _ _ _ _
  have h4 := zn_15 s a
  have h5 := (turn_same (decide (a ≥ half s)) s (turnV s a) (x := 0) (by omega)).2.2
  unfold core
  by_cases k1 : k = 1
  · subst k1; simp [isSum1, h1]
  · by_cases k2 : k = 2
    · subst k2; simp [isSum1, h2]
    · simp only [k1, k2, if_false]
      split
      · omega
      · split <;> omega
theorem made_range {fl k s a b : Int} (hf : 0 ≤ fl ∧ fl ≤ 31) : 0 ≤ madeI fl k s a b ∧ madeI fl k s a b ≤ 31 := by
  obtain ⟨h0, h1, h2⟩ := @core_range k s a b
  unfold madeI
  cases hs : isSum1 k with
  | true => simp; omega
  | false => have := h2 hs; simp; omega
theorem lMake_eq (n : Nat) {fl k s a b : Int} (hg : goodOp k s a b = true) (hf : 0 ≤ fl ∧ fl ≤ 31) : spec_l13Make.f (n + 4) fl k s a b = some (madeI fl k s a b) := by
  obtain ⟨hk, ⟨hs, ha⟩, hb⟩ := good_op_parts hg
  have e16 := (bits_31 hf.1 hf.2).2.2
  unfold spec_l13Make.f madeI core
  rcases (by omega : k = 1 ∨ k = 2 ∨ k = 3 ∨ k = 4 ∨ k = 5) with rfl | rfl | rfl | rfl | rfl
  · simp [lAdd_eq hs, isSum1]
  · simp [lSub_eq hs, isSum1]
  · have h2 : 0 ≤ subF s a b ∧ subF s a b ≤ 31 := sumF_31 _ _ _ _
    simp only [spec_l1Cmp.f, lSub_eq hs, Option.bind_some, e16, (bits_31 h2.1 h2.2).1]
    rw [(or_join (i := fl / 16) (j := subF s a b % 16) (by omega) (by omega)).1]
    simp [isSum1]
  · have h4 := zn_15 s a
    simp only [spec_l1Logic.f, lZn_eq hs, Option.bind_some, e16]
    rw [(or_join (i := fl / 16) (j := zn s a) (by omega) h4).2]
    simp [isSum1]
  · rw [lTurn_eq n hs hf]
    simp [isSum1]
theorem iMade_eq (n : Nat) {fl k s a b : Int} (hg : goodOp k s a b = true) (hf : 0 ≤ fl ∧ fl ≤ 31) : impl_made.f (n + 4) fl k s a b = some (madeI fl k s a b) := by
  obtain ⟨hk, ⟨hs, ha⟩, hb⟩ := good_op_parts hg
  have e16 := (bits_31 hf.1 hf.2).2.2
  unfold impl_made.f madeI core
  rcases (by omega : k = 1 ∨ k = 2 ∨ k = 3 ∨ k = 4 ∨ k = 5) with rfl | rfl | rfl | rfl | rfl
  · simp [iAdd_eq hs, isSum1]
  · simp [iSub_eq hs ha hb, isSum1]
  · have h2 : 0 ≤ subF s a b ∧ subF s a b ≤ 31 := sumF_31 _ _ _ _
    simp only [impl_cmpFlags.f, iSub_eq hs ha hb, Option.bind_some, e16, (bits_31 h2.1 h2.2).2.1]
    rw [(or_join (i := fl / 16) (j := subF s a b % 16) (by omega) (by omega)).1]
    simp [isSum1]
  · have h4 := zn_15 s a
    simp only [impl_logicFlags.f, signs_eq hs, Option.bind_some, e16]
    rw [(or_join (i := fl / 16) (j := zn s a) (by omega) h4).2]
    simp [isSum1]
  · rw [iTurn_eq n hs ha hf]
    simp [isSum1]
/-- What a note's flags are, once its own turn is taken into account. -/
def flagsR (z k s a b k' s' a' b' : Int) : Int :=
  if isNone4 k' s' a' b' then (if isNone4 k s a b then z else madeI z k s a b) else if isSum1 k then core k' s' a' b' else madeI (core k' s' a' b') k s a b
theorem lazy_parts {z k s a b k' s' a' b' : Int} (h : goodLazy z k s a b k' s' a' b' = true) :
    (0 ≤ z ∧ z ≤ 31) ∧ (isNone4 k s a b = true ∨ goodOp k s a b = true) ∧ (isNone4 k' s' a' b' = true ∨ (goodOp k' s' a' b' = true ∧ isSum1 k' = true)) ∧
    (isNone4 k s a b = true → isNone4 k' s' a' b' = true) ∧ (isNone4 k s a b = false → isSum1 k = true → k' = k ∧ s' = s ∧ a' = a ∧ b' = b) := by
  unfold goodLazy at h
  simp only [Bool.and_eq_true, Bool.or_eq_true, decide_eq_true_eq] at h
  obtain ⟨⟨⟨h1, h2⟩, h3⟩, h4⟩ := h
  refine ⟨h1, h2, h3, fun h => ?_, fun h hs => ?_⟩
  · rw [h] at h4
    simpa using h4
  · rw [h, hs] at h4
    exact same4_iff.1 (by simpa using h4)
theorem none_kind {k s a b : Int} (h : isNone4 k s a b = true ∨ goodOp k s a b = true) : (isNone4 k s a b = true ↔ k = 0) := by
  constructor
  · intro hn
    exact (none_iff.1 hn).1
  · intro hk
    rcases h with h | h
    · exact h
    · have := good_kind h
      omega
theorem made_sum {z k s a b : Int} (h : isSum1 k = true) : madeI z k s a b = core k s a b := by
  unfold madeI
  rw [h]
  rfl
theorem lFlagsR_eq (n : Nat) {z k s a b k' s' a' b' : Int} (h : goodLazy z k s a b k' s' a' b' = true) : spec_l13Flags.f (n + 5) z k s a b k' s' a' b' = some (flagsR z k s a b k' s' a' b') := by
  obtain ⟨hz, hl, hf, hln, hls⟩ := lazy_parts h
  unfold spec_l13Flags.f flagsR
  rw [none_eq, Option.bind_some]
  cases hn' : isNone4 k' s' a' b' with
  | true =>
    rw [if_pos rfl, if_pos rfl, spec_l13Flags.j0, none_eq, Option.bind_some]
    cases hn : isNone4 k s a b with
    | true => simp
    | false =>
      have hg : goodOp k s a b = true := by rcases hl with h | h <;> simp_all
      have hs : isSum1 k = false := by
        cases hs : isSum1 k with
        | false => rfl
        | true =>
          obtain ⟨rfl, rfl, rfl, rfl⟩ := hls hn hs
          simp_all
      rw [if_neg (by simp), if_neg (by simp), lSum_eq, Option.bind_some, hs, if_neg (by simp), lMake_eq n hg hz, Option.bind_some]
  | false =>
    obtain ⟨hg', hs'⟩ : goodOp k' s' a' b' = true ∧ isSum1 k' = true := by rcases hf with h | h <;> simp_all
    have hn : isNone4 k s a b = false := by
      cases hn : isNone4 k s a b with
      | false => rfl
      | true => simp_all
    have hg : goodOp k s a b = true := by rcases hl with h | h <;> simp_all
    rw [if_neg (by simp), if_neg (by simp), lMake_eq (n + 1) hg' hz, Option.bind_some, made_sum hs', spec_l13Flags.j0, none_eq, Option.bind_some, hn, if_neg (by simp), lSum_eq, Option.bind_some]
    have hc := @core_range k' s' a' b'
    cases hs : isSum1 k with
    | true => rw [if_pos rfl, if_pos rfl]
    | false => rw [if_neg (by simp), if_neg (by simp), lMake_eq n hg ⟨hc.1, hc.2.1⟩, Option.bind_some]
theorem part_join {x y : Int} (hx : 0 ≤ x ∧ x ≤ 31) (hy : 0 ≤ y ∧ y ≤ 31) : bits .or .i64 (bits .and .i64 x 16) (bits .andNot .i64 y 16) = y % 16 + x / 16 * 16 := by
  rw [(bits_31 hx.1 hx.2).2.2, (bits_31 hy.1 hy.2).2.1, (or_join (i := x / 16) (j := y % 16) (by omega) (by omega)).2]
theorem iFlags_eq (n : Nat) {z k s a b k' s' a' b' : Int} (h : goodLazy z k s a b k' s' a' b' = true) : impl_FlagsOf.f (n + 4) z k s a b k' s' a' b' = some (flagsR z k s a b k' s' a' b', true) := by
  obtain ⟨hz, hl, hf, hln, hls⟩ := lazy_parts h
  have hkl := none_kind hl
  have hkf := none_kind (hf.imp id And.left)
  unfold impl_FlagsOf.f flagsR
  rw [iGoodLazy_eq (n + 2), h, Option.bind_some, if_pos rfl]
  cases hn' : isNone4 k' s' a' b' with
  | true =>
    rw [if_pos (hkf.1 hn'), if_pos rfl]
    cases hn : isNone4 k s a b with
    | true =>
      rw [if_pos (hkl.1 hn), if_pos rfl, part_join hz hz]
      congr 2
      omega
    | false =>
      have hg : goodOp k s a b = true := by rcases hl with h | h <;> simp_all
      have hs : isSum1 k = false := by
        cases hs : isSum1 k with
        | false => rfl
        | true =>
          obtain ⟨rfl, rfl, rfl, rfl⟩ := hls hn hs
          simp_all
      have hm := @made_range 0 k s a b ⟨by omega, by omega⟩
      have hc := (@core_range k s a b).2.2 hs
      have hc0 := (@core_range k s a b).1
      rw [if_neg (fun e => by rw [hkl.2 e] at hn; cases hn), if_neg (by simp), iMade_eq n hg ⟨by omega, by omega⟩, Option.bind_some, part_join hz hm]
      congr 2
      unfold madeI
      rw [hs]
      simp only [Bool.false_eq_true, if_false]
      omega
  | false =>
    obtain ⟨hg', hs'⟩ : goodOp k' s' a' b' = true ∧ isSum1 k' = true := by rcases hf with h | h <;> simp_all
    have hn : isNone4 k s a b = false := by
      cases hn : isNone4 k s a b with
      | false => rfl
      | true => simp_all
    have hg : goodOp k s a b = true := by rcases hl with h | h <;> simp_all
    have hcf := @core_range k' s' a' b'
    have hm := @made_range 0 k s a b ⟨by omega, by omega⟩
    rw [if_neg (fun e => by rw [hkf.2 e] at hn'; cases hn'), if_neg (by simp), iMade_eq n hg' ⟨by omega, by omega⟩, Option.bind_some, made_sum hs', if_neg (fun e => by rw [hkl.2 e] at hn; cases hn), iMade_eq n hg ⟨by omega, by omega⟩, Option.bind_some, part_join ⟨hcf.1, hcf.2.1⟩ hm]
    congr 2
    cases hs : isSum1 k with
    | true =>
      obtain ⟨rfl, rfl, rfl, rfl⟩ := hls hn hs
      rw [made_sum hs, if_pos rfl]
      omega
    | false =>
      have hc := (@core_range k s a b).2.2 hs
      have hc0 := (@core_range k s a b).1
      unfold madeI
      rw [hs]
      simp only [Bool.false_eq_true, if_false]
      omega
theorem flagsR_range {z k s a b k' s' a' b' : Int} (h : goodLazy z k s a b k' s' a' b' = true) : 0 ≤ flagsR z k s a b k' s' a' b' ∧ flagsR z k s a b k' s' a' b' ≤ 31 := by
  obtain ⟨hz, -⟩ := lazy_parts h
  have hcf := @core_range k' s' a' b'
  have h1 := @made_range z k s a b hz
  have h2 := @made_range (core k' s' a' b') k s a b ⟨hcf.1, hcf.2.1⟩
  unfold flagsR
  split
  · split <;> assumption
  · split
    · exact ⟨hcf.1, hcf.2.1⟩
    · exact h2
theorem test_all : ∀ (c : Fin 16) (f : Fin 32), spec_l8Test.f (c.val : Int) (f.val : Int) = impl_testCond.f (c.val : Int) (f.val : Int) ∧ (spec_l8Test.f (c.val : Int) (f.val : Int)).isSome = true := by decide +kernel
theorem test_same {c f : Int} (hc : 0 ≤ c ∧ c ≤ 15) (hf : 0 ≤ f ∧ f ≤ 31) : ∃ b, spec_l8Test.f c f = some b ∧ impl_testCond.f c f = some b := by
  obtain ⟨n, rfl⟩ := Int.eq_ofNat_of_zero_le hc.1
  obtain ⟨m, rfl⟩ := Int.eq_ofNat_of_zero_le hf.1
  obtain ⟨h1, h2⟩ := test_all ⟨n, by omega⟩ ⟨m, by omega⟩
  obtain ⟨b, hb⟩ := Option.isSome_iff_exists.1 h2
  exact ⟨b, hb, h1 ▸ hb⟩
theorem lCond_eq (a : Int) : spec_l8Cond.f a = some (decide (0 ≤ a ∧ a ≤ 15)) := by
  unfold spec_l8Cond.f
  rw [l1In_eq]
  rfl
theorem isCond_eq (a : Int) : impl_isCond.f a = some (decide (0 ≤ a ∧ a ≤ 15)) := by
  unfold impl_isCond.f
  rw [within_eq]
  rfl
theorem condOf_same (n : Nat) (z k s a b k' s' a' b' c : Int) :
    ∃ r, spec_CondOf.f (n + 6) z k s a b k' s' a' b' c = some r ∧ impl_CondOf.f (n + 6) z k s a b k' s' a' b' c = some r := by
  unfold spec_CondOf.f impl_CondOf.f
  rw [lGoodLazy_eq (n + 5), Option.bind_some]
  cases h : goodLazy z k s a b k' s' a' b' with
  | true =>
    have hr := flagsR_range h
    rw [iFlags_eq (n + 2) h, Option.bind_some, if_pos rfl, lCond_eq, Option.bind_some, spec_CondOf.j0]
    unfold impl_TestCond.f
    by_cases hc : 0 ≤ c ∧ c ≤ 15
    · obtain ⟨t, h1, h2⟩ := test_same hc hr
      rw [decide_eq_true hc, if_neg (by simp), lFlagsR_eq n h, Option.bind_some, h1]
      simp only [isCond_eq, areFlags_eq, Option.bind_some, decide_eq_true hc, decide_eq_true hr, if_true, h2]
      exact ⟨_, rfl, rfl⟩
    · rw [decide_eq_false hc, if_pos (show (!false) = true from rfl)]
      simp only [isCond_eq, areFlags_eq, Option.bind_some, decide_eq_false hc]
      exact ⟨_, rfl, by simp⟩
  | false =>
    rw [if_neg (by simp), spec_CondOf.j0, if_pos rfl]
    refine ⟨_, rfl, ?_⟩
    unfold impl_FlagsOf.f
    rw [iGoodLazy_eq (n + 4), h, Option.bind_some, if_neg (by simp), Option.bind_some, if_neg (by simp)]
theorem FnExactCondOf : ∀ (a0_0 : Int) (a0_1 : Int) (a0_2 : Int) (a0_3 : Int) (a0_4 : Int) (a0_5 : Int) (a0_6 : Int) (a0_7 : Int) (a0_8 : Int) (a1 : Int), (Lit.int .i64 a0_0).wf = true → (Lit.int .i64 a0_1).wf = true → (Lit.int .i64 a0_2).wf = true → (Lit.int .i64 a0_3).wf = true → (Lit.int .i64 a0_4).wf = true → (Lit.int .i64 a0_5).wf = true → (Lit.int .i64 a0_6).wf = true → (Lit.int .i64 a0_7).wf = true → (Lit.int .i64 a0_8).wf = true → (Lit.int .i64 a1).wf = true → ∃ k, laws_FnExactCondOf.f k a0_0 a0_1 a0_2 a0_3 a0_4 a0_5 a0_6 a0_7 a0_8 a1 = some true := by
  intro a0 a1 a2 a3 a4 a5 a6 a7 a8 c _ _ _ _ _ _ _ _ _ _
  obtain ⟨r, h1, h2⟩ := condOf_same 0 a0 a1 a2 a3 a4 a5 a6 a7 a8 c
  refine ⟨6, ?_⟩
  unfold laws_FnExactCondOf.f laws_toLazy.f laws_toFlagOp.f
  simp only [Option.bind_some]
  rw [show (6 : Nat) = 0 + 6 from rfl, h1, h2]
  simp only [Option.bind_some]
  simp

end Go.Proofs.Ytopmacbjbjaekaa.Pure
