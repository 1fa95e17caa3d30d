/- The law FnConds as a plain function answers true for all arguments (numbers of 64 bits, lists of at most 2^63 - 1 elements). No other condition. -/
import Derived.Test.YtdkodgchdhcjlaaEx4
import Derived.Test.YtdkodgchdhcjlaaMath
set_option linter.unusedVariables false
set_option linter.unusedSimpArgs false
namespace Go.Proofs.Ytdkodgchdhcjlaa.Pure
open Go.RowKit Go.Proofs.Ytdkodgchdhcjlaa.E Go.Proofs.YtdkodgchdhcjlaaW.PrintWords Go.Proofs.YtdkodgchdhcjlaaW.PrintLast Go.Proofs.Ytdkodgchdhcjlaa.Math

theorem l1In_eq (a b c : Int) : spec_l1In.f a b c = some (decide (b ≤ a ∧ a ≤ c)) := by
  unfold spec_l1In.f
  by_cases h : b ≤ a <;> simp [h]
theorem within_eq (a b c : Int) : impl_within.f a b c = some (decide (b ≤ a ∧ a ≤ c)) := by
  unfold impl_within.f
  by_cases h : b ≤ a <;> simp [h]
theorem next_ok (l : List Int) {a : Int} (s : Int) (h : 0 ≤ a ∧ a ≤ 100) : ∃ b t, spec_l1Cur_next.f l a s = some (b, a + 1, t) := by
  unfold spec_l1Cur_next.f
  rw [wrap64_id (n := a + 1) (by omega) (by omega)]
  by_cases h1 : a < (l.length : Int)
  · rw [if_pos h1, if_pos h.1]
    by_cases h2 : a + 1 ≤ (l.length : Int)
    · rw [if_pos h2]; exact ⟨_, _, rfl⟩
    · rw [if_neg h2]; exact ⟨_, _, rfl⟩
  · rw [if_neg h1]
    by_cases h2 : a + 1 ≤ (l.length : Int)
    · rw [if_pos h2]; exact ⟨_, _, rfl⟩
    · rw [if_neg h2]; exact ⟨_, _, rfl⟩
theorem pick_ok (l : List Int) {a n : Int} (s : Int) (h : 0 ≤ a ∧ a ≤ 100) (hn : 1 < n ∧ n ≤ 200) : ∃ b t, spec_l1Cur_pick.f l a s n = some (b, a + 1, t) := by
  obtain ⟨b, t, e⟩ := next_ok l s h
  unfold spec_l1Cur_pick.f
  rw [if_neg (by omega), e, Option.bind_some, if_neg (by omega), if_neg (by omega)]
  exact ⟨_, _, rfl⟩
theorem drawT (l : List Int) : ∃ p, spec_DrawTestCond.f l = some p := by
  obtain ⟨b, t, e⟩ := pick_ok l (a := 0) (n := 18) 0 (by omega) (by omega)
  obtain ⟨c, u, g⟩ := pick_ok l (a := 0 + 1) (n := 33) t (by omega) (by omega)
  unfold spec_DrawTestCond.f
  rw [e, Option.bind_some]
  simp only
  rw [g]
  exact ⟨_, rfl⟩
theorem drawN (l : List Int) : ∃ p, spec_DrawNeedsOf.f l = some p := by
  unfold spec_DrawNeedsOf.f
  repeat' split
  all_goals exact ⟨_, rfl⟩
theorem drawC (l : List Int) : ∃ p, spec_DrawCountTrue.f l = some p := by
  unfold spec_DrawCountTrue.f
  repeat' split
  all_goals exact ⟨_, rfl⟩
theorem isCond_eq (a : Int) : impl_isCond.f a = some (decide (0 ≤ a ∧ a ≤ 15)) := by
  unfold impl_isCond.f
  rw [within_eq]
  rfl
theorem l8Cond_eq (a : Int) : spec_l8Cond.f a = some (decide (0 ≤ a ∧ a ≤ 15)) := by
  unfold spec_l8Cond.f
  rw [l1In_eq]
  rfl
theorem areF_eq (a : Int) : impl_areFlags.f a = some (decide (0 ≤ a ∧ a ≤ 31)) := by
  unfold impl_areFlags.f
  rw [within_eq]
  rfl
theorem l1F_eq (a : Int) : spec_l1Flags.f a = some (decide (0 ≤ a ∧ a ≤ 31)) := by
  unfold spec_l1Flags.f
  rw [l1In_eq]
  rfl
/-- What the law asks of one condition, flags and a further number. -/
def okc (k f m : Int) : Bool :=
  match impl_TestCond.f k f, spec_TestCond.f k f, impl_ContraryOf.f k, impl_NeedsOf.f k with
  | some (t, true), some (t', true), some (c, true), some (n, true) => t == t' && (match impl_TestCond.f c f with | some (u, true) => u != t | _ => false) && (impl_TestCond.f k (Go.bits .or .i64 (Go.bits .and .i64 f n) (Go.bits .andNot .i64 m n)) == some (t, true))
  | _, _, _, _ => false
theorem okc_all : ∀ (k : Fin 16) (f m : Fin 32), okc ((k : Nat) : Int) ((f : Nat) : Int) ((m : Nat) : Int) = true := by decide +kernel
theorem okc_in {k f m : Int} (hk : 0 ≤ k ∧ k ≤ 15) (hf : 0 ≤ f ∧ f ≤ 31) (hm : 0 ≤ m ∧ m ≤ 31) : okc k f m = true := by
  have := okc_all ⟨k.toNat, by omega⟩ ⟨f.toNat, by omega⟩ ⟨m.toNat, by omega⟩
  simpa [Int.toNat_of_nonneg hk.1, Int.toNat_of_nonneg hf.1, Int.toNat_of_nonneg hm.1] using this
theorem okc_parts {k f m : Int} (h : okc k f m = true) : ∃ t c u n, impl_TestCond.f k f = some (t, true) ∧ spec_TestCond.f k f = some (t, true) ∧ impl_ContraryOf.f k = some (c, true) ∧ impl_TestCond.f c f = some (u, true) ∧ (u == t) = false ∧ impl_NeedsOf.f k = some (n, true) ∧ impl_TestCond.f k (Go.bits .or .i64 (Go.bits .and .i64 f n) (Go.bits .andNot .i64 m n)) = some (t, true) := by
  unfold okc at h
  split at h
  · rename_i t t' c n e1 e2 e3 e4
    simp only [Bool.and_eq_true, beq_iff_eq] at h
    obtain ⟨⟨rfl, h2⟩, h3⟩ := h
    split at h2
    · rename_i u e5
      exact ⟨t, c, u, n, e1, e2, e3, e5, by simpa using h2, e4, h3⟩
    · cases h2
  · cases h
theorem out_test {k f : Int} (h : ¬ ((0 ≤ k ∧ k ≤ 15) ∧ (0 ≤ f ∧ f ≤ 31))) : impl_TestCond.f k f = some (false, false) ∧ spec_TestCond.f k f = some (false, false) := by
  unfold impl_TestCond.f spec_TestCond.f
  rw [isCond_eq, l8Cond_eq, Option.bind_some, Option.bind_some, areF_eq, l1F_eq]
  by_cases hk : 0 ≤ k ∧ k ≤ 15
  · have hf : ¬ (0 ≤ f ∧ f ≤ 31) := fun hf => h ⟨hk, hf⟩
    simp [hk, hf]
  · simp [hk]
theorem count_all : ∀ f : Fin 32, impl_CountTrue.f 17 ((f : Nat) : Int) = some (8, true) ∧ spec_CountTrue.f 17 ((f : Nat) : Int) = some (8, true) := by decide +kernel
theorem count_in {f : Int} (hf : 0 ≤ f ∧ f ≤ 31) {k : Nat} (hk : 17 ≤ k) : impl_CountTrue.f k f = some (8, true) ∧ spec_CountTrue.f k f = some (8, true) := by
  have := count_all ⟨f.toNat, by omega⟩
  simp only [Int.toNat_of_nonneg hf.1] at this
  exact ⟨at_rounds (fun k => impl_CountTrue.mono f k) hk this.1, at_rounds (fun k => spec_CountTrue.mono f k) hk this.2⟩
theorem count_eq (f : Int) {k : Nat} (hk : 17 ≤ k) : ∃ p, impl_CountTrue.f k f = some p ∧ spec_CountTrue.f k f = some p := by
  by_cases hf : 0 ≤ f ∧ f ≤ 31
  · exact ⟨_, count_in hf hk⟩
  · refine ⟨(0, false), ?_⟩
    unfold impl_CountTrue.f spec_CountTrue.f
    rw [areF_eq, l1F_eq]
    simp [hf]
theorem need_all : ∀ a : Fin 16, (impl_NeedsOf.f ((a : Nat) : Int)).isSome = true ∧ impl_NeedsOf.f ((a : Nat) : Int) = spec_NeedsOf.f ((a : Nat) : Int) := by decide +kernel
theorem need_eq (a : Int) : ∃ p, impl_NeedsOf.f a = some p ∧ spec_NeedsOf.f a = some p := by
  by_cases ha : 0 ≤ a ∧ a ≤ 15
  · have := need_all ⟨a.toNat, by omega⟩
    simp only [Int.toNat_of_nonneg ha.1] at this
    obtain ⟨p, hp⟩ := Option.isSome_iff_exists.mp this.1
    exact ⟨p, hp, this.2 ▸ hp⟩
  · refine ⟨(0, false), ?_⟩
    unfold impl_NeedsOf.f spec_NeedsOf.f
    rw [isCond_eq, l8Cond_eq]
    simp [ha]
theorem contrary_eq (a : Int) : ∃ p, impl_ContraryOf.f a = some p ∧ spec_ContraryOf.f a = some p := by
  unfold impl_ContraryOf.f spec_ContraryOf.f
  rw [isCond_eq, l8Cond_eq]
  simp only [Option.bind_some]
  split <;> exact ⟨_, rfl, rfl⟩
theorem number_loop (l : List Int) (hl : l.length ≤ 9223372036854775807) (hb : ∀ x ∈ l, (Lit.int .u8 x).wf = true) : ∀ (d i : Nat) (n : Int), i + d = l.length → 0 ≤ n ∧ n ≤ 1000003 →
    ∃ r, 0 ≤ r ∧ ∀ k, d < k → laws_numberOf.l0 k n l (l.length : Int) (i : Int) = some r := by
  intro d
  induction d with
  | zero =>
    intro i n hi hn
    refine ⟨n, hn.1, fun k hk => ?_⟩
    obtain ⟨k, rfl⟩ : ∃ m, k = m + 1 := ⟨k - 1, by omega⟩
    rw [laws_numberOf.l0, if_neg (by omega)]
  | succ d ih =>
    intro i n hi hn
    have hlt : i < l.length := by omega
    have hx : rd l (i : Int) = l[i] := by simp [rd, List.getElem?_eq_getElem hlt]
    have hw := hb l[i] (List.getElem_mem hlt)
    have hr : 0 ≤ l[i] ∧ l[i] ≤ 255 := by
      simp only [Lit.wf, IntKind.min, IntKind.max, IntKind.signed, IntKind.bits, Bool.and_eq_true, decide_eq_true_eq, Bool.false_eq_true, if_false] at hw
      omega
    have h1 : wrap64 (31 * n) = 31 * n := wrap64_id (by omega) (by omega)
    have h2 : wrap64 l[i] = l[i] := wrap64_id (by omega) (by omega)
    have h3 : wrap64 (31 * n + l[i]) = 31 * n + l[i] := wrap64_id (by omega) (by omega)
    have h4 : wrap64 ((i : Int) + 1) = ((i + 1 : Nat) : Int) := by rw [wrap64_id (by omega) (by omega)]; omega
    have h5 : Int.tmod (31 * n + l[i]) 1000003 = (31 * n + l[i]) % 1000003 := Int.tmod_eq_emod_of_nonneg (by omega)
    obtain ⟨r, h0, h⟩ := ih (i + 1) ((31 * n + l[i]) % 1000003) (by omega) (by omega)
    refine ⟨r, h0, fun k hk => ?_⟩
    obtain ⟨k, rfl⟩ : ∃ m, k = m + 1 := ⟨k - 1, by omega⟩
    rw [laws_numberOf.l0, if_pos (by omega), if_pos (by omega), if_pos (by omega), hx, h1, h2, h3, h4, h5]
    exact h k (by omega)
theorem FnConds : ∀ (l0 : (List Int)) (l1 : (List Int)), l0.length ≤ 9223372036854775807 → (∀ x_ ∈ l0, (Lit.int .u8 x_).wf = true) → l1.length ≤ 9223372036854775807 → (∀ x_ ∈ l1, (Lit.int .u8 x_).wf = true) → ∃ k, laws_FnConds.f k l0 l1 = some true := by
  intro l0 l1 h0 _ h1 hb
  obtain ⟨r, hr, hn⟩ := number_loop l1 h1 hb l1.length 0 0 (by omega) (by omega)
  refine ⟨l1.length + 20, ?_⟩
  have hN : laws_numberOf.f (l1.length + 20) l1 = some r := hn _ (by omega)
  have hk : 17 ≤ l1.length + 20 := by omega
  generalize l1.length + 20 = K at *
  clear hn
  obtain ⟨⟨k, f⟩, e1⟩ := drawT l0
  obtain ⟨a, e2⟩ := drawN l1
  obtain ⟨g, e3⟩ := drawC l1
  obtain ⟨⟨p1, p2⟩, e4, e4'⟩ := need_eq a
  obtain ⟨⟨q1, q2⟩, e5, e5'⟩ := contrary_eq a
  obtain ⟨⟨s1, s2⟩, e6, e6'⟩ := count_eq g hk
  unfold laws_FnConds.f
  by_cases hL : wrap64 ((l0.length : Int) + (l1.length : Int)) > 1048576
  · rw [if_pos hL]
  rw [if_neg hL, e1]
  simp only [Option.bind_some, e2, e3, e4, e4', e5, e5', e6, e6', beq_self_eq_true, if_true]
  by_cases hc : (0 ≤ k ∧ k ≤ 15) ∧ (0 ≤ f ∧ f ≤ 31)
  · obtain ⟨hc1, hc2⟩ := hc
    have ht : 0 ≤ Int.tmod r 32 ∧ Int.tmod r 32 ≤ 31 := by
      rw [Int.tmod_eq_emod_of_nonneg hr]
      omega
    obtain ⟨t, c, u, n, g1, g2, g3, g4, g5, g6, g7⟩ := okc_parts (okc_in hc1 hc2 ht)
    have g8 := (count_in hc2 hk).1
    have g9 : ¬ u = t := by simpa using g5
    simp [g1, g2, g3, g4, g6, g7, g8, hN, g9]
  · obtain ⟨g1, g2⟩ := out_test hc
    simp [g1, g2]

end Go.Proofs.Ytdkodgchdhcjlaa.Pure
