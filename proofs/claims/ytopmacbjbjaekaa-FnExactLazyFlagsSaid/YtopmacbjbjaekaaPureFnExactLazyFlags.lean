/- The law FnExactLazyFlags as a plain function answers true for all arguments (numbers of 64 bits, lists of at most 2^63 - 1 elements). No other condition. -/
import Derived.Test.YtopmacbjbjaekaaGx6
import Derived.Test.YtopmacbjbjaekaaMath
set_option linter.unusedVariables false
set_option linter.unusedSimpArgs false
namespace Go.Proofs.Ytopmacbjbjaekaa.Pure
open Go.RowKit Go.Proofs.Ytopmacbjbjaekaa.G Go.Proofs.YtopmacbjbjaekaaW.PrintWords Go.Proofs.YtopmacbjbjaekaaW.PrintLast Go.Proofs.Ytopmacbjbjaekaa.Math

theorem l1In_eq (a b c : Int) : spec_l1In.f a b c = some (decide (b ≤ a ∧ a ≤ c)) := by
  unfold spec_l1In.f
  by_cases h : b ≤ a <;> simp [h]
theorem within_eq (a b c : Int) : impl_within.f a b c = some (decide (b ≤ a ∧ a ≤ c)) := by
  unfold impl_within.f
  by_cases h : b ≤ a <;> simp [h]
theorem lSize_eq (s : Int) : spec_l1Size.f s = some (decide (s = 1 ∨ s = 2)) := by
  unfold spec_l1Size.f
  by_cases h : s = 1
  · simp [h]
  · by_cases h2 : s = 2 <;> simp [h, h2]
theorem isSize_eq (s : Int) : impl_isSize.f s = some (decide (s = 1 ∨ s = 2)) := by
  unfold impl_isSize.f
  by_cases h : s = 1
  · simp [h]
  · by_cases h2 : s = 2 <;> simp [h, h2]
/-- How many values a size has. -/
def top (s : Int) : Int := if s = 1 then 256 else 65536
theorem lTop_1 : spec_l1Top.f 1 = some 256 := by decide +kernel
theorem lTop_2 : spec_l1Top.f 2 = some 65536 := by decide +kernel
theorem limit_1 : impl_limitOf.f 1 = some 256 := by decide +kernel
theorem limit_2 : impl_limitOf.f 2 = some 65536 := by decide +kernel
theorem lTop_eq {s : Int} (h : s = 1 ∨ s = 2) : spec_l1Top.f s = some (top s) := by
  rcases h with rfl | rfl
  · exact lTop_1
  · exact lTop_2
theorem limit_eq {s : Int} (h : s = 1 ∨ s = 2) : impl_limitOf.f s = some (top s) := by
  rcases h with rfl | rfl
  · exact limit_1
  · exact limit_2
theorem top_le {s : Int} : 256 ≤ top s ∧ top s ≤ 65536 := by unfold top; split <;> omega
/-- Whether v is a value of size s. -/
def isVal (s v : Int) : Bool := decide ((s = 1 ∨ s = 2) ∧ 0 ≤ v ∧ v < top s)
theorem isVal_iff {s v : Int} : isVal s v = true ↔ (s = 1 ∨ s = 2) ∧ 0 ≤ v ∧ v < top s := by simp [isVal]
theorem lValue_eq (s v : Int) : spec_l1Value.f s v = some (isVal s v) := by
  unfold spec_l1Value.f isVal
  rw [lSize_eq]
  by_cases h : s = 1 ∨ s = 2
  · have ht := @top_le s
    simp only [Option.bind_some, decide_eq_true_eq, h, if_true, lTop_eq h, l1In_eq, wrap64_id (n := top s - 1) (by omega) (by omega), true_and]
    congr 1
    rw [decide_eq_decide]
    omega
  · simp [h]
theorem isValue_eq (s v : Int) : impl_isValue.f s v = some (isVal s v) := by
  unfold impl_isValue.f isVal
  rw [isSize_eq]
  by_cases h : s = 1 ∨ s = 2
  · have ht := @top_le s
    simp only [Option.bind_some, decide_eq_true_eq, h, if_true, limit_eq h, within_eq, wrap64_id (n := top s - 1) (by omega) (by omega), true_and]
    congr 1
    rw [decide_eq_decide]
    omega
  · simp [h]
/-- Whether a flag operation is good. -/
def goodOp (k s a b : Int) : Bool := decide (1 ≤ k ∧ k ≤ 5) && isVal s a && isVal s b && (decide (k ≤ 3) || b == 0)
theorem lGoodOp_eq (k s a b : Int) : spec_GoodFlagOp.f k s a b = some (goodOp k s a b) := by
  unfold spec_GoodFlagOp.f goodOp
  simp only [lValue_eq, l1In_eq, Option.bind_some, decide_eq_true_eq]
  by_cases h1 : 1 ≤ k ∧ k ≤ 5 <;> cases h2 : isVal s a <;> cases h3 : isVal s b <;> by_cases h4 : k ≤ 3 <;> simp [h1, h2, h3, h4]
theorem iGoodOp_eq (k s a b : Int) : impl_GoodFlagOp.f k s a b = some (goodOp k s a b) := by
  unfold impl_GoodFlagOp.f goodOp
  simp only [isValue_eq, within_eq, Option.bind_some, decide_eq_true_eq]
  by_cases h1 : 1 ≤ k ∧ k ≤ 5 <;> cases h2 : isVal s a <;> cases h3 : isVal s b <;> by_cases h4 : k ≤ 3 <;> simp [h1, h2, h3, h4]
theorem lFlags_eq (a : Int) : spec_l1Flags.f a = some (decide (0 ≤ a ∧ a ≤ 31)) := by
  unfold spec_l1Flags.f
  rw [l1In_eq]
  rfl
theorem areFlags_eq (a : Int) : impl_areFlags.f a = some (decide (0 ≤ a ∧ a ≤ 31)) := by
  unfold impl_areFlags.f
  rw [within_eq]
  rfl
def isNone4 (k s a b : Int) : Bool := k == 0 && (s == 0 && (a == 0 && (b == 0)))
def isSum1 (k : Int) : Bool := k == 1 || k == 2
def same4 (k s a b k' s' a' b' : Int) : Bool := k == k' && (s == s' && (a == a' && (b == b')))
theorem good_kind {k s a b : Int} (h : goodOp k s a b = true) : 1 ≤ k ∧ k ≤ 5 := by
  unfold goodOp at h
  simp only [Bool.and_eq_true, decide_eq_true_eq] at h
  exact h.1.1.1
/-- Whether a note is good. -/
theorem lSum_eq (k s a b : Int) : spec_l13Sum.f k s a b = some (isSum1 k) := by
  unfold spec_l13Sum.f isSum1
  by_cases h : k = 1 <;> simp [h]
theorem iSum_eq (k : Int) : impl_isSum.f k = some (isSum1 k) := by
  unfold impl_isSum.f isSum1
  by_cases h : k = 1 <;> simp [h]
theorem succ_nat {i n : Nat} (h : i < n) (hn : n ≤ 1048576) : wrap64 ((i : Int) + 1) = ((i + 1 : Nat) : Int) := by
  rw [wrap64_id (by omega) (by omega)]
  omega
theorem rd25 {l : List S25} {i : Nat} (h : i < l.length) : rd_T25 l (i : Int) = l[i] := by
  simp [rd_T25, h]
theorem rd37 {l : List S37} {i : Nat} (h : i < l.length) : rd_T37 l (i : Int) = l[i] := by
  simp [rd_T37, h]
/-- What the copy of one element is. -/
def conv (x : S37) : S25 := ⟨x.f0, x.f1, x.f2, x.f3⟩
theorem set_here (l : List S37) (i m : Nat) (h : i + (m + 1) = l.length) :
    ((l.take i).map conv ++ List.replicate (m + 1) z25).set i (conv (l[i]'(by omega))) = (l.take (i + 1)).map conv ++ List.replicate m z25 := by
  have hi : i < l.length := by omega
  rw [List.set_append_right _ _ (by simp; omega), List.take_succ_eq_append_getElem hi, List.map_append, List.append_assoc]
  congr 1
  have : i - ((l.take i).map conv).length = 0 := by simp; omega
  rw [this, List.replicate_succ]
  rfl
theorem toOps_loop (l : List S37) (hl : l.length ≤ 1048576) : ∀ (m i n : Nat), i + m = l.length →
    laws_toFlagOpS.l0 (n + m + 1) l ((l.take i).map conv ++ List.replicate m z25) (i : Int) = some (l.map conv)
  | 0, i, n, h => by
    rw [laws_toFlagOpS.l0, if_neg (by omega), List.take_of_length_le (by omega)]
    simp
  | m + 1, i, n, h => by
    have hi : i < l.length := by omega
    rw [show n + (m + 1) + 1 = (n + m + 1) + 1 from by omega, laws_toFlagOpS.l0, if_pos (by omega), if_pos (by omega), rd37 hi]
    unfold laws_toFlagOp.f
    rw [Option.bind_some, if_pos (by simp; omega), succ_nat hi hl, Int.toNat_natCast]
    change laws_toFlagOpS.l0 (n + m + 1) l (((l.take i).map conv ++ List.replicate (m + 1) z25).set i (conv l[i])) ((i + 1 : Nat) : Int) = _
    rw [set_here l i m h]
    exact toOps_loop l hl m (i + 1) n (by omega)
theorem toOps_eq (l : List S37) (hl : l.length ≤ 1048576) (n : Nat) : laws_toFlagOpS.f (n + l.length + 1) l = some (l.map conv) := by
  unfold laws_toFlagOpS.f
  rw [if_pos (by omega), if_pos (by rw [Int.toNat_natCast]; omega)]
  have := toOps_loop l hl l.length 0 n (by omega)
  simpa using this
theorem eqOps_loop (l : List S25) (hl : l.length ≤ 1048576) : ∀ (m i n : Nat), i + m = l.length → laws_eqFlagOpS.l0 (n + m + 1) l l (i : Int) = some true
  | 0, i, n, h => by rw [laws_eqFlagOpS.l0, if_neg (by omega)]
  | m + 1, i, n, h => by
    have hi : i < l.length := by omega
    have hs : ∀ k s a b, laws_eqFlagOp.f k s a b k s a b = some true := fun k s a b => by simp [laws_eqFlagOp.f]
    rw [show n + (m + 1) + 1 = (n + m + 1) + 1 from by omega, laws_eqFlagOpS.l0, if_pos (by omega), if_pos (by omega), if_pos (by omega), hs, Option.bind_some, if_pos rfl, succ_nat hi hl]
    exact eqOps_loop l hl m (i + 1) n (by omega)
theorem eqOps_eq (l : List S25) (hl : l.length ≤ 1048576) (n : Nat) : laws_eqFlagOpS.f (n + l.length + 1) l l = some true := by
  unfold laws_eqFlagOpS.f
  rw [if_pos rfl]
  exact eqOps_loop l hl l.length 0 n (by omega)
def gop (x : S25) : Bool := goodOp x.f0 x.f1 x.f2 x.f3
theorem lOps_loop (x0 l : List S25) (hl : l.length ≤ 1048576) : ∀ (m i n : Nat), i + m = l.length →
    spec_l13Ops.l0 (n + m + 1) x0 l (l.length : Int) (i : Int) = some ((l.drop i).all gop && decide ((x0.length : Int) ≤ 40))
  | 0, i, n, h => by
    rw [spec_l13Ops.l0, if_neg (by omega), List.drop_of_length_le (by omega)]
    rfl
  | m + 1, i, n, h => by
    have hi : i < l.length := by omega
    rw [show n + (m + 1) + 1 = (n + m + 1) + 1 from by omega, spec_l13Ops.l0, if_pos (by omega), if_pos (by omega), if_pos (by omega), rd25 hi, lGoodOp_eq, Option.bind_some, List.drop_eq_getElem_cons hi, List.all_cons, succ_nat hi hl]
    change (if gop l[i] = true then _ else _) = _
    cases gop l[i] with
    | true =>
      rw [if_pos rfl, Bool.true_and]
      exact lOps_loop x0 l hl m (i + 1) n (by omega)
    | false => rfl
theorem lOps_eq (l : List S25) (hl : l.length ≤ 1048576) (n : Nat) : spec_l13Ops.f (n + l.length + 1) l = some (l.all gop && decide ((l.length : Int) ≤ 40)) := by
  unfold spec_l13Ops.f
  have := lOps_loop l l hl l.length 0 n (by omega)
  simpa using this
theorem iIdx_loop (l : List S25) (hl : l.length ≤ 1048576) : ∀ (m i n : Nat), i + m = l.length →
    ∃ r, slices_IndexFunc_132_g101.l0 (n + m + 1) l (l.length : Int) (i : Int) = some r ∧ decide (r ≥ 0) = !(l.drop i).all gop
  | 0, i, n, h => by
    refine ⟨-1, ?_, ?_⟩
    · rw [slices_IndexFunc_132_g101.l0, if_neg (by omega)]
    · rw [List.drop_of_length_le (by omega)]
      rfl
  | m + 1, i, n, h => by
    have hi : i < l.length := by omega
    rw [show n + (m + 1) + 1 = (n + m + 1) + 1 from by omega, slices_IndexFunc_132_g101.l0, if_pos (by omega), if_pos (by omega), if_pos (by omega), rd25 hi, impl_areOps_1.f, iGoodOp_eq, Option.bind_some, Option.bind_some, List.drop_eq_getElem_cons hi, List.all_cons, succ_nat hi hl]
    change ∃ r, (if (!gop l[i]) = true then _ else _) = some r ∧ _
    cases gop l[i] with
    | true =>
      rw [if_neg (by simp), Bool.true_and]
      exact iIdx_loop l hl m (i + 1) n (by omega)
    | false => exact ⟨(i : Int), rfl, by simp⟩
theorem iOps_eq (a : Int) (l : List S25) (hl : l.length ≤ 1048576) (n : Nat) : impl_areOps.f (n + l.length + 1) a l = some (decide (0 ≤ a ∧ a ≤ 31) && (l.all gop && decide ((l.length : Int) ≤ 40))) := by
  unfold impl_areOps.f slices_ContainsFunc_100_g101.f slices_IndexFunc_132_g101.f
  obtain ⟨r, h1, h2⟩ := iIdx_loop l hl l.length 0 n (by omega)
  rw [areFlags_eq, Option.bind_some]
  rw [show ((0 : Nat) : Int) = 0 from rfl] at h1
  by_cases ha : 0 ≤ a ∧ a ≤ 31
  · rw [if_pos (decide_eq_true ha)]
    by_cases hc : (l.length : Int) ≤ 40
    · rw [if_pos hc, h1]
      simp only [Option.bind_some, h2]
      simp [ha, hc]
    · rw [if_neg hc]
      simp [hc]
  · rw [if_neg (by simpa using ha)]
    simp [ha]
theorem szOps_eq (l : List S37) (h : l.length ≤ 9223372036854775807) : ∃ r, laws_szFlagOpS.f l 1048576 = some r ∧ (r < 0 ∨ (¬ r < 0 ∧ l.length ≤ 1048576)) := by
  unfold laws_szFlagOpS.f
  rw [wrap64_id (by omega) (by omega)]
  by_cases h : (1048576 - (l.length : Int)) < 0
  · rw [if_pos h]
    exact ⟨-1, rfl, Or.inl (by omega)⟩
  · rw [if_neg h]
    exact ⟨_, rfl, Or.inr ⟨h, by omega⟩⟩
theorem eqFlagOp_self (k s a b : Int) : laws_eqFlagOp.f k s a b k s a b = some true := by simp [laws_eqFlagOp.f]
theorem eqLazy_self (z k s a b k' s' a' b' : Int) : laws_eqLazy.f z k s a b k' s' a' b' z k s a b k' s' a' b' = some true := by simp [laws_eqLazy.f, eqFlagOp_self]
theorem note_both (z k s a b k' s' a' b' x y u v : Int) :
    ∃ r, spec_l13Note.f z k s a b k' s' a' b' x y u v = some r ∧ impl_noted.f z k s a b k' s' a' b' x y u v = some r := by
  unfold spec_l13Note.f impl_noted.f
  rw [lSum_eq, iSum_eq, Option.bind_some]
  cases isSum1 x <;> exact ⟨_, rfl, rfl⟩
theorem lazy_loop (l : List S25) (hl : l.length ≤ 1048576) : ∀ (m i n p : Nat) (z k s a b k' s' a' b' : Int), i + m = l.length →
    ∃ r, spec_LazyFlags.l0 (n + m + 1) l (l.length : Int) (i : Int) z k s a b k' s' a' b' = some r ∧ impl_LazyFlags.l0 (p + m + 1) l (l.length : Int) (i : Int) z k s a b k' s' a' b' = some r
  | 0, i, n, p, z, k, s, a, b, k', s', a', b', h => by
    refine ⟨(z, k, s, a, b, k', s', a', b', true), ?_, ?_⟩
    · rw [spec_LazyFlags.l0, if_neg (by omega)]
    · rw [impl_LazyFlags.l0, if_neg (by omega)]
  | m + 1, i, n, p, z, k, s, a, b, k', s', a', b', h => by
    have hi : i < l.length := by omega
    obtain ⟨r, h1, h2⟩ := note_both z k s a b k' s' a' b' l[i].f0 l[i].f1 l[i].f2 l[i].f3
    obtain ⟨q, h3, h4⟩ := lazy_loop l hl m (i + 1) n p r.1 r.2.1 r.2.2.1 r.2.2.2.1 r.2.2.2.2.1 r.2.2.2.2.2.1 r.2.2.2.2.2.2.1 r.2.2.2.2.2.2.2.1 r.2.2.2.2.2.2.2.2 (by omega)
    refine ⟨q, ?_, ?_⟩
    · rw [show n + (m + 1) + 1 = (n + m + 1) + 1 from by omega, spec_LazyFlags.l0, if_pos (by omega), if_pos (by omega), if_pos (by omega), rd25 hi, h1, Option.bind_some, succ_nat hi hl]
      exact h3
    · rw [show p + (m + 1) + 1 = (p + m + 1) + 1 from by omega, impl_LazyFlags.l0, if_pos (by omega), if_pos (by omega), if_pos (by omega), rd25 hi, h2, Option.bind_some, succ_nat hi hl]
      exact h4
theorem lazyF_same (l : List S25) (hl : l.length ≤ 1048576) (a : Int) (n : Nat) :
    ∃ r, spec_LazyFlags.f (n + l.length + 6) a l = some r ∧ impl_LazyFlags.f (n + l.length + 6) a l = some r := by
  unfold spec_LazyFlags.f impl_LazyFlags.f
  rw [lFlags_eq, Option.bind_some, show n + l.length + 6 = (n + 5) + l.length + 1 from by omega, lOps_eq l hl, iOps_eq a l hl, Option.bind_some, Option.bind_some]
  by_cases ha : 0 ≤ a ∧ a ≤ 31
  · rw [if_pos (decide_eq_true ha), decide_eq_true ha, Bool.true_and]
    cases hg : l.all gop && decide ((l.length : Int) ≤ 40) with
    | true =>
      rw [if_pos rfl, spec_LazyFlags.j0, if_neg (by simp)]
      obtain ⟨q, h1, h2⟩ := lazy_loop l hl l.length 0 (n + 4) (n + 5) a 0 0 0 0 0 0 0 0 (by omega)
      rw [show n + 5 + l.length = n + 4 + l.length + 1 from by omega]
      refine ⟨q, h1, ?_⟩
      rw [show n + 4 + l.length + 1 + 1 = n + 5 + l.length + 1 from by omega]
      exact h2
    | false =>
      rw [if_neg (by simp), spec_LazyFlags.j0, if_pos (show (!false) = true from rfl)]
      exact ⟨_, rfl, rfl⟩
  · rw [if_neg (by simpa using ha), decide_eq_false ha, Bool.false_and, if_neg (by simp), spec_LazyFlags.j0, if_pos rfl]
    exact ⟨_, rfl, rfl⟩
theorem FnExactLazyFlags : ∀ (a0 : Int) (l1 : (List S37)), (Lit.int .i64 a0).wf = true → l1.length ≤ 9223372036854775807 → ∃ k, laws_FnExactLazyFlags.f k a0 l1 = some true := by
  intro a l _ hl
  obtain ⟨r, hr, hc⟩ := szOps_eq l hl
  rcases hc with hc | ⟨hn, hc⟩
  · refine ⟨0, ?_⟩
    unfold laws_FnExactLazyFlags.f
    rw [hr, Option.bind_some, if_pos hc]
  · have hcl : (l.map conv).length = l.length := by simp
    obtain ⟨v, h1, h2⟩ := lazyF_same (l.map conv) (by omega) a 0
    refine ⟨l.length + 6, ?_⟩
    unfold laws_FnExactLazyFlags.f
    rw [hcl, show 0 + l.length + 6 = l.length + 6 from by omega] at h1 h2
    have ht := toOps_eq l hc 5
    rw [show 5 + l.length + 1 = l.length + 6 from by omega] at ht
    have ht2 := toOps_eq l hc 4
    rw [show 4 + l.length + 1 = l.length + 5 from by omega] at ht2
    have he := eqOps_eq (l.map conv) (by omega) 4
    rw [hcl, show 4 + l.length + 1 = l.length + 5 from by omega] at he
    rw [hr, Option.bind_some, if_neg hn, ht, Option.bind_some, h1, Option.bind_some, Option.bind_some, h2, Option.bind_some, eqLazy_self, Option.bind_some, if_pos rfl, laws_FnExactLazyFlags.j0, if_neg (by simp), ht2, Option.bind_some, he, Option.bind_some, if_pos rfl]

end Go.Proofs.Ytopmacbjbjaekaa.Pure
