/- For all whole numbers low, by of 64 bits: the program's DivSteps(low, by) and the reference's, as plain functions, end and answer the same, and a second answer leaves the first one's numbers alone. No condition. -/
import Derived.Test.YtaalmfjpdgdnaaaPFnExactDivStepsx2
import Derived.Test.YtaalmfjpdgdnaaaMath
set_option linter.unusedVariables false
set_option linter.unusedSimpArgs false
namespace Go.Proofs.Ytaalmfjpdgdnaaa.Pure
open Go.RowKit Go.Proofs.Ytaalmfjpdgdnaaa.PFnExactDivSteps Go.Proofs.YtaalmfjpdgdnaaaW.PrintWords Go.Proofs.YtaalmfjpdgdnaaaW.PrintLast Go.Proofs.Ytaalmfjpdgdnaaa.Math

theorem l1In_eq (a b c : Int) : spec_l1In.f a b c = some (decide (b ≤ a ∧ a ≤ c)) := by
  unfold spec_l1In.f
  by_cases h : b ≤ a <;> simp [h]
theorem within_eq (a b c : Int) : impl_within.f a b c = some (decide (b ≤ a ∧ a ≤ c)) := by
  unfold impl_within.f
  by_cases h : b ≤ a <;> simp [h]
theorem l6Word_eq (a : Int) : spec_l6Word.f a = some (decide (0 ≤ a ∧ a ≤ 65535)) := by
  unfold spec_l6Word.f
  rw [l1In_eq]
  rfl
theorem isWord_eq (a : Int) : impl_isWord.f a = some (decide (0 ≤ a ∧ a ≤ 65535)) := by
  unfold impl_isWord.f
  rw [within_eq]
  rfl
/-- The numbers a, a + 1, .. -/
def upto (a : Int) : Nat → List Int
  | 0 => []
  | n + 1 => a :: upto (a + 1) n
theorem upto_length (a : Int) (n : Nat) : (upto a n).length = n := by
  induction n generalizing a with
  | zero => rfl
  | succ n ih => simp [upto, ih]
theorem rd_at (l : List Int) (i : Nat) (h : i < l.length) : rd l (i : Int) = l[i] := by
  simp [rd, List.getElem?_eq_getElem h]
theorem eqIntS_l0 (l : List Int) (hl : l.length ≤ 4611686018427387904) : ∀ (d k i : Nat), i + d = l.length → d < k → laws_eqIntS.l0 k l l (i : Int) = some true := by
  intro d
  induction d with
  | zero =>
    intro k i hi hk
    obtain ⟨k, rfl⟩ : ∃ m, k = m + 1 := ⟨k - 1, by omega⟩
    simp only [laws_eqIntS.l0]
    rw [if_neg (by omega)]
  | succ d ih =>
    intro k i hi hk
    obtain ⟨k, rfl⟩ : ∃ m, k = m + 1 := ⟨k - 1, by omega⟩
    simp only [laws_eqIntS.l0]
    rw [if_pos (by omega), if_pos (by omega), if_pos (by omega), if_pos trivial, wrap64_id (by omega) (by omega), show ((i : Int) + 1) = ((i + 1 : Nat) : Int) by omega]
    exact ih k (i + 1) (by omega) (by omega)
theorem eqIntS_self (l : List Int) (hl : l.length ≤ 4611686018427387904) (k : Nat) (hk : l.length < k) : laws_eqIntS.f k l l = some true := by
  unfold laws_eqIntS.f
  rw [if_pos rfl]
  exact eqIntS_l0 l hl l.length k 0 (by omega) hk
theorem markIntS_l0 (n : Nat) (hn : n ≤ 4611686018427387904) : ∀ (d k i : Nat) (a : Int) (x : List Int), x.length = n → i + d = n → d < k → 0 ≤ a → a ≤ 4611686018427387904 - (d : Int) →
    laws_markIntS.l0 k x a (i : Int) = some (a + (d : Int), x.take i ++ upto a d) := by
  intro d
  induction d with
  | zero =>
    intro k i a x hx hi hk _ _
    obtain ⟨k, rfl⟩ : ∃ m, k = m + 1 := ⟨k - 1, by omega⟩
    simp only [laws_markIntS.l0]
    rw [if_neg (by omega)]
    simp [upto, List.take_of_length_le (show x.length ≤ i by omega)]
  | succ d ih =>
    intro k i a x hx hi hk ha hb
    obtain ⟨k, rfl⟩ : ∃ m, k = m + 1 := ⟨k - 1, by omega⟩
    simp only [laws_markIntS.l0]
    rw [if_pos (by omega), if_pos (by omega), wrap64_id (n := a + 1) (by omega) (by omega), wrap64_id (by omega) (by omega)]
    have hset : (x.set i a).take (i + 1) = x.take i ++ [a] := by
      rw [List.take_succ_eq_append_getElem (by simp; omega), List.take_set, List.set_eq_of_length_le (by simp; omega)]
      simp
    have := ih k (i + 1) (a + 1) (x.set i a) (by simp [hx]) (by omega) (by omega) (by omega) (by omega)
    rw [hset] at this
    simp only [Int.toNat_natCast]
    rw [show ((i : Int) + 1) = ((i + 1 : Nat) : Int) by omega, this]
    simp [upto]
    omega
theorem markIntS_eq (x : List Int) (a : Int) (k : Nat) (hk : x.length < k) (ha : 0 ≤ a) (hb : a + (x.length : Int) ≤ 4611686018427387904) :
    laws_markIntS.f k x a = some (a + (x.length : Int), upto a x.length) := by
  unfold laws_markIntS.f
  have := markIntS_l0 x.length (by omega) x.length k 0 a x rfl (by omega) hk ha (by omega)
  simpa using this
theorem heldIntS_l0 (x : List Int) (hx : x.length ≤ 4611686018427387904) : ∀ (d k i : Nat) (a : Int), x.drop i = upto a d → i + d = x.length → d < k → 0 ≤ a → a ≤ 4611686018427387904 - (d : Int) →
    laws_heldIntS.l0 k x a (i : Int) = some (a + (d : Int)) := by
  intro d
  induction d with
  | zero =>
    intro k i a hd hi hk _ _
    obtain ⟨k, rfl⟩ : ∃ m, k = m + 1 := ⟨k - 1, by omega⟩
    simp only [laws_heldIntS.l0]
    rw [if_neg (by omega)]
    simp
  | succ d ih =>
    intro k i a hd hi hk ha hb
    obtain ⟨k, rfl⟩ : ∃ m, k = m + 1 := ⟨k - 1, by omega⟩
    have hlt : i < x.length := by omega
    rw [List.drop_eq_getElem_cons hlt] at hd
    simp only [upto, List.cons.injEq] at hd
    simp only [laws_heldIntS.l0]
    rw [if_pos (by omega), if_pos (by omega), wrap64_id (n := a + 1) (by omega) (by omega), wrap64_id (by omega) (by omega), rd_at x i hlt, if_pos hd.1]
    have := ih k (i + 1) (a + 1) hd.2 (by omega) (by omega) (by omega) (by omega)
    rw [show ((i : Int) + 1) = ((i + 1 : Nat) : Int) by omega, this]
    congr 1
    omega
theorem heldIntS_upto (n : Nat) (a : Int) (k : Nat) (hk : n < k) (ha : 0 ≤ a) (hb : a + (n : Int) ≤ 4611686018427387904) :
    laws_heldIntS.f k (upto a n) a = some (a + (n : Int)) := by
  unfold laws_heldIntS.f
  exact heldIntS_l0 (upto a n) (by rw [upto_length]; omega) n k 0 a rfl (by rw [upto_length]; omega) hk ha (by omega)
theorem steps_loop (v b : Int) : ∀ (d : Nat) (left : Int) (l : List Int), d ≤ 16 → l.length + d = 16 →
    ∃ (r : List Int) (z : Int), r.length = 16 ∧ ∀ k, d < k → spec_DivSteps.l0 k v b left l ((d : Int) - 1) = some (r, z, true) ∧ impl_DivSteps.l0 k v b l left ((d : Int) - 1) = some (r, z, true) := by
  intro d
  induction d with
  | zero =>
    intro left l _ hl
    by_cases hn : left < 0
    · refine ⟨l, wrap64 (left + b), by omega, fun k hk => ?_⟩
      obtain ⟨k, rfl⟩ : ∃ m, k = m + 1 := ⟨k - 1, by omega⟩
      refine ⟨?_, ?_⟩
      · simp only [spec_DivSteps.l0]
        rw [if_neg (by omega), if_pos hn]
      · simp only [impl_DivSteps.l0]
        rw [if_neg (by omega), if_pos hn]
    · refine ⟨l, left, by omega, fun k hk => ?_⟩
      obtain ⟨k, rfl⟩ : ∃ m, k = m + 1 := ⟨k - 1, by omega⟩
      refine ⟨?_, ?_⟩
      · simp only [spec_DivSteps.l0]
        rw [if_neg (by omega), if_neg hn]
      · simp only [impl_DivSteps.l0]
        rw [if_neg (by omega), if_neg hn]
  | succ d ih =>
    intro left l hd hl
    have hu : IntKind.u64.wrap (((d + 1 : Nat) : Int) - 1) = ((d + 1 : Nat) : Int) - 1 := u64_id (by omega) (by omega)
    have hw : wrap64 (((d + 1 : Nat) : Int) - 1 - 1) = (d : Int) - 1 := by rw [wrap64_id (by omega) (by omega)]; omega
    generalize hx : wrap64 (wrap64 (2 * left) + bits .and .i64 (shr .i64 v (((d + 1 : Nat) : Int) - 1)) 1) = x
    have key : ∀ y : Int, (if left ≥ 0 then wrap64 (x - b) else wrap64 (x + b)) = y → ∃ (r : List Int) (z : Int), r.length = 16 ∧ ∀ k, d < k → spec_DivSteps.l0 k v b y (l ++ [if y ≥ 0 then 1 else -1]) ((d : Int) - 1) = some (r, z, true) ∧ impl_DivSteps.l0 k v b (l ++ [if y ≥ 0 then 1 else -1]) y ((d : Int) - 1) = some (r, z, true) :=
      fun y _ => ih y _ (by omega) (by simp; omega)
    have e1 : wrap64 (wrap64 (2 * 1) - 1) = 1 := by decide +kernel
    have e0 : wrap64 (wrap64 (2 * 0) - 1) = -1 := by decide +kernel
    by_cases hp : left ≥ 0
    · obtain ⟨r, z, hr, h⟩ := key (wrap64 (x - b)) (if_pos hp)
      refine ⟨r, z, hr, fun k hk => ?_⟩
      obtain ⟨k, rfl⟩ : ∃ m, k = m + 1 := ⟨k - 1, by omega⟩
      have hk' := h k (by omega)
      simp only [spec_DivSteps.l0, impl_DivSteps.l0]
      rw [hu, hw, hx]
      by_cases hy : wrap64 (x - b) ≥ 0
      · rw [if_pos hy] at hk'
        refine ⟨?_, ?_⟩
        · rw [if_pos (by omega), if_pos (by omega), if_pos hp]
          simp only [spec_l1Flag.f, hy, decide_true, if_true, Option.bind_some, e1]
          rw [if_pos (by omega)]
          exact hk'.1
        · rw [if_pos (by omega), if_pos (by omega), if_pos hp, if_pos hy, if_pos (by omega)]
          exact hk'.2
      · rw [if_neg hy] at hk'
        refine ⟨?_, ?_⟩
        · rw [if_pos (by omega), if_pos (by omega), if_pos hp]
          simp only [spec_l1Flag.f, hy, decide_false, Bool.false_eq_true, if_false, Option.bind_some, e0]
          rw [if_pos (by omega)]
          exact hk'.1
        · rw [if_pos (by omega), if_pos (by omega), if_pos hp, if_neg hy, if_pos (by omega)]
          exact hk'.2
    · obtain ⟨r, z, hr, h⟩ := key (wrap64 (x + b)) (if_neg hp)
      refine ⟨r, z, hr, fun k hk => ?_⟩
      obtain ⟨k, rfl⟩ : ∃ m, k = m + 1 := ⟨k - 1, by omega⟩
      have hk' := h k (by omega)
      simp only [spec_DivSteps.l0, impl_DivSteps.l0]
      rw [hu, hw, hx]
      by_cases hy : wrap64 (x + b) ≥ 0
      · rw [if_pos hy] at hk'
        refine ⟨?_, ?_⟩
        · rw [if_pos (by omega), if_pos (by omega), if_neg hp]
          simp only [spec_l1Flag.f, hy, decide_true, if_true, Option.bind_some, e1]
          rw [if_pos (by omega)]
          exact hk'.1
        · rw [if_pos (by omega), if_pos (by omega), if_neg hp, if_pos hy, if_pos (by omega)]
          exact hk'.2
      · rw [if_neg hy] at hk'
        refine ⟨?_, ?_⟩
        · rw [if_pos (by omega), if_pos (by omega), if_neg hp]
          simp only [spec_l1Flag.f, hy, decide_false, Bool.false_eq_true, if_false, Option.bind_some, e0]
          rw [if_pos (by omega)]
          exact hk'.1
        · rw [if_pos (by omega), if_pos (by omega), if_neg hp, if_neg hy, if_pos (by omega)]
          exact hk'.2
theorem steps_both (v b : Int) : ∃ (r : List Int) (z : Int) (ok : Bool), r.length ≤ 16 ∧ ∀ k, 20 ≤ k → spec_DivSteps.f k v b = some (r, z, ok) ∧ impl_DivSteps.f k v b = some (r, z, ok) := by
  obtain ⟨r, z, hr, h⟩ := steps_loop v b 16 0 [] (by decide) rfl
  by_cases h0 : 0 ≤ v ∧ v ≤ 65535
  · by_cases h1 : 1 ≤ b ∧ b ≤ 32767
    · refine ⟨r, z, true, by omega, fun k hk => ?_⟩
      obtain ⟨k, rfl⟩ : ∃ m, k = m + 1 := ⟨k - 1, by omega⟩
      obtain ⟨h2, h3⟩ := h k (by omega)
      have h2' : spec_DivSteps.l0 k v b 0 [] 15 = _ := h2
      have h3' : impl_DivSteps.l0 k v b [] 0 15 = _ := h3
      unfold spec_DivSteps.f impl_DivSteps.f
      rw [l6Word_eq, isWord_eq, l1In_eq, within_eq]
      simp [h0, h1, spec_DivSteps.j0, impl_DivSteps.j0, h2', h3']
    · refine ⟨[], 0, false, by simp, fun k hk => ?_⟩
      obtain ⟨k, rfl⟩ : ∃ m, k = m + 1 := ⟨k - 1, by omega⟩
      unfold spec_DivSteps.f impl_DivSteps.f
      rw [l6Word_eq, isWord_eq, l1In_eq, within_eq]
      simp [h0, h1, spec_DivSteps.j0, impl_DivSteps.j0]
  · refine ⟨[], 0, false, by simp, fun k hk => ?_⟩
    obtain ⟨k, rfl⟩ : ∃ m, k = m + 1 := ⟨k - 1, by omega⟩
    unfold spec_DivSteps.f impl_DivSteps.f
    rw [l6Word_eq, isWord_eq]
    simp [h0, spec_DivSteps.j0, impl_DivSteps.j0]
theorem FnExactDivSteps : laws_FnExactDivSteps.Pure := by
  intro a0 a1 _ _
  obtain ⟨r, z, ok, hr, h⟩ := steps_both a0 a1
  have hk : ∀ k, 40 ≤ k → laws_FnExactDivSteps.f k a0 a1 = some true := by
    intro k hk
    obtain ⟨k, rfl⟩ : ∃ m, k = m + 1 + 1 := ⟨k - 2, by omega⟩
    unfold laws_FnExactDivSteps.f
    rw [(h (k + 1 + 1) (by omega)).1, (h (k + 1 + 1) (by omega)).2]
    simp only [Option.bind_some, eqIntS_self r (by omega) (k + 1 + 1) (by omega), if_true, bne_self_eq_false]
    simp only [laws_FnExactDivSteps.j0]
    rw [markIntS_eq r 1 (k + 1) (by omega) (by decide) (by omega)]
    simp only [Option.bind_some, heldIntS_upto r.length 1 (k + 1) (by omega) (by decide) (by omega)]
    rw [if_neg (show ¬ (1 + (r.length : Int)) < 0 by omega)]
    simp only [if_true]
    rw [(h (k + 1) (by omega)).2]
    simp only [Option.bind_some, eqIntS_self r (by omega) (k + 1) (by omega), if_true, bne_self_eq_false]
    simp only [laws_FnExactDivSteps.j1]
    rw [heldIntS_upto r.length 1 k (by omega) (by decide) (by omega)]
    simp only [Option.bind_some]
    rw [if_neg (show ¬ (1 + (r.length : Int)) < 0 by omega)]
    simp
  exact ⟨40, hk 40 (by decide)⟩

end Go.Proofs.Ytaalmfjpdgdnaaa.Pure
