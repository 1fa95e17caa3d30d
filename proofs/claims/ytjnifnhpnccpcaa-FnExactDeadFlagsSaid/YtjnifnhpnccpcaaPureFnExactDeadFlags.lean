/- The law FnExactDeadFlags as a plain function answers true for all arguments (numbers of 64 bits, lists of at most 2^63 - 1 elements). No other condition. -/
import Derived.Test.YtjnifnhpnccpcaaKx25
import Derived.Test.YtjnifnhpnccpcaaMath
set_option linter.unusedVariables false
set_option linter.unusedSimpArgs false
namespace Go.Proofs.Ytjnifnhpnccpcaa.Pure
open Go.RowKit Go.Proofs.Ytjnifnhpnccpcaa.K Go.Proofs.YtjnifnhpnccpcaaW.PrintWords Go.Proofs.YtjnifnhpnccpcaaW.PrintLast Go.Proofs.Ytjnifnhpnccpcaa.Math

theorem l1In_eq (a b c : Int) : spec_l1In.f a b c = some (decide (b ≤ a ∧ a ≤ c)) := by
  unfold spec_l1In.f
  by_cases h : b ≤ a <;> simp [h]
theorem within_eq (a b c : Int) : impl_within.f a b c = some (decide (b ≤ a ∧ a ≤ c)) := by
  unfold impl_within.f
  by_cases h : b ≤ a <;> simp [h]
theorem l6Word_eq (a : Int) : spec_l6Word.f a = some (decide (0 ≤ a ∧ a ≤ 65535)) := by
  unfold spec_l6Word.f
  rw [l1In_eq]
  rfl
theorem isWord_eq (a : Int) : impl_isWord.f a = some (decide (0 ≤ a ∧ a ≤ 65535)) := by
  unfold impl_isWord.f
  rw [within_eq]
  rfl
theorem lSize_eq (s : Int) : spec_l1Size.f s = some (decide (s = 1 ∨ s = 2)) := by
  unfold spec_l1Size.f
  by_cases h : s = 1
  · simp [h]
  · by_cases h2 : s = 2 <;> simp [h, h2]
theorem isSize_eq (s : Int) : impl_isSize.f s = some (decide (s = 1 ∨ s = 2)) := by
  unfold impl_isSize.f
  by_cases h : s = 1
  · simp [h]
  · by_cases h2 : s = 2 <;> simp [h, h2]
def memB (m : Int) : Bool := decide (2 ≤ m ∧ m ≤ 6)
def plainB (m : Int) : Bool := m == 2 || (m == 5 || m == 6)
def nowB (m e : Int) : Bool := m == 7 && decide (e ≤ 1023)
def zeroB (m r e : Int) : Bool := m == 0 && (r == 0 && (e == 0))
/-- Whether an operand is good. -/
def goodEa (m r e : Int) : Bool := decide (0 ≤ m ∧ m ≤ 7) && decide (0 ≤ r ∧ r ≤ 3) && decide (0 ≤ e ∧ e ≤ 65535) && (decide (5 ≤ m) || e == 0) && (decide (m < 6) || r == 0)
theorem lMemory_eq (m : Int) : spec_l7Memory.f m = some (memB m) := by
  unfold spec_l7Memory.f
  rw [l1In_eq]
  rfl
theorem isMemory_eq (m : Int) : impl_isMemory.f m = some (memB m) := by
  unfold impl_isMemory.f
  rw [within_eq]
  rfl
theorem lPlain_eq (m : Int) : spec_l7Plain.f m = some (plainB m) := by
  unfold spec_l7Plain.f plainB
  by_cases h : m = 2
  · simp [h]
  · have e1 : (m == 2) = false := beq_eq_false_iff_ne.2 h
    by_cases h2 : m = 5
    · simp [h2]
    · have e2 : (m == 5) = false := beq_eq_false_iff_ne.2 h2
      simp [h, h2, e1, e2]
theorem isPlain_eq (m : Int) : impl_isPlain.f m = some (plainB m) := by
  unfold impl_isPlain.f plainB
  by_cases h : m = 2
  · simp [h]
  · have e1 : (m == 2) = false := beq_eq_false_iff_ne.2 h
    by_cases h2 : m = 5
    · simp [h2]
    · have e2 : (m == 5) = false := beq_eq_false_iff_ne.2 h2
      simp [h, h2, e1, e2]
theorem lNow_eq (m r e : Int) : spec_l7Now.f m r e = some (nowB m e) := by
  unfold spec_l7Now.f nowB
  by_cases h : m = 7 <;> simp [h]
theorem isNow_eq (m r e : Int) : impl_isNow.f m r e = some (nowB m e) := by
  unfold impl_isNow.f nowB
  by_cases h : m = 7 <;> simp [h]
theorem lZero_eq (m r e : Int) : spec_l7Zero.f m r e = some (zeroB m r e) := rfl
theorem isSettable_eq (m : Int) : impl_isSettable.f m = some (m == 0 || memB m) := by
  unfold impl_isSettable.f
  rw [isMemory_eq]
  by_cases h : m = 0 <;> simp [h]
theorem lExt_eq (m : Int) : spec_l6Ext.f m = some (decide (5 ≤ m)) := rfl
theorem needsExt_eq (m : Int) : impl_needsExt.f m = some (decide (m = 5 ∨ m = 6 ∨ m = 7)) := by
  unfold impl_needsExt.f
  by_cases h : m = 5
  · simp [h]
  · by_cases h2 : m = 6
    · simp [h2]
    · by_cases h3 : m = 7 <;> simp [h, h2, h3]
theorem lGoodOperand_eq (k : Nat) (m r e : Int) : spec_GoodOperand.f (k + 1) m r e = some (goodEa m r e) := by
  unfold spec_GoodOperand.f goodEa
  simp only [l1In_eq, l6Word_eq, lExt_eq, Option.bind_some, spec_GoodOperand.j0, decide_eq_true_eq]
  by_cases h1 : 0 ≤ m ∧ m ≤ 7 <;> by_cases h2 : 0 ≤ r ∧ r ≤ 3 <;> by_cases h3 : 0 ≤ e ∧ e ≤ 65535 <;> by_cases h4 : 6 ≤ m <;> by_cases h5 : r = 0 <;> by_cases h6 : 5 ≤ m <;> simp [h1, h2, h3, h4, h5, h6, Int.not_lt.2, Int.not_le] <;> omega
theorem goodOperand_eq (m r e : Int) : impl_GoodOperand.f m r e = some (goodEa m r e) := by
  unfold impl_GoodOperand.f goodEa
  simp only [within_eq, isWord_eq, needsExt_eq, Option.bind_some, decide_eq_true_eq]
  by_cases h1 : 0 ≤ m ∧ m ≤ 7
  · have e1 : (m = 5 ∨ m = 6 ∨ m = 7) ↔ 5 ≤ m := by omega
    simp only [e1]
    by_cases h2 : 0 ≤ r ∧ r ≤ 3 <;> by_cases h3 : 0 ≤ e ∧ e ≤ 65535 <;> by_cases h4 : m < 6 <;> by_cases h5 : r = 0 <;> by_cases h6 : 5 ≤ m <;> by_cases h7 : e = 0 <;> simp [h1, h2, h3, h4, h5, h6, h7]
  · simp [h1]
/-- Whether an instruction is right by its Op. -/
def kindB (op s r m er e b : Int) : Bool :=
  if op = 1 ∨ op = 3 ∨ op = 4 ∨ op = 5 ∨ op = 6 ∨ op = 7 ∨ op = 8 then b == 0 && (s == 2 || m != 1)
  else if op = 2 then b == 0 && (m == 0 || memB m)
  else if op = 9 then s == 2 && b == 0
  else if op = 10 then s == 2 && (b == 0 && plainB m)
  else if op = 11 then r == 0 && (decide (b ≤ 3) && (m == 0 || memB m))
  else if op = 12 then m == 0
  else if op = 13 then s == 2 && (decide (r ≤ 1) && m == 7)
  else if op = 14 then s == 2 && (r == 0 && (decide (b ≤ 1) && plainB m))
  else if op = 15 then (if b = 3 then s == 2 && (r == 0 && nowB m e) else s == 2 && (decide (b ≤ 6) && (zeroB m er e && (decide (3 < b) || r == 0))))
  else if op = 16 ∨ op = 17 then s == 2 && (b == 0 && m != 1)
  else if op = 18 then s != 2 && (decide (b ≤ 1) && m == 0)
  else if op = 19 then s == 2 && ((b == 0 && (r == 0 && nowB m e)) || (b == 1 && zeroB m er e))
  else false
/-- Whether an instruction is good. -/
def goodIns (op s r m er e b : Int) : Bool :=
  decide (s = 1 ∨ s = 2) && decide (0 ≤ r ∧ r ≤ 3) && decide (0 ≤ b ∧ b ≤ 7) && goodEa m er e && !(m == 7 && (s == 1 && decide (255 < e))) && kindB op s r m er e b
theorem lIns_kind (k : Nat) (op s r m er e b : Int) : spec_GoodIns.j0 (k + 3) false op s r m er e b = some (kindB op s r m er e b) := by
  have hcases : (op = 1 ∨ op = 3 ∨ op = 4 ∨ op = 5 ∨ op = 6 ∨ op = 7 ∨ op = 8) ∨ op = 2 ∨ op = 9 ∨ op = 10 ∨ op = 11 ∨ op = 12 ∨ op = 13 ∨ op = 14 ∨ op = 15 ∨ op = 16 ∨ op = 17 ∨ op = 18 ∨ op = 19 ∨ (op < 1 ∨ 19 < op) := by omega
  simp only [spec_GoodIns.j0, spec_GoodIns.j1, spec_GoodIns.j2, lMemory_eq, lPlain_eq, lNow_eq, lZero_eq, Option.bind_some, Bool.false_eq_true, if_false]
  unfold kindB
  rcases hcases with (rfl | rfl | rfl | rfl | rfl | rfl | rfl) | rfl | rfl | rfl | rfl | rfl | rfl | rfl | rfl | rfl | rfl | rfl | rfl | h
  case inr.inr.inr.inr.inr.inr.inr.inr.inr.inr.inr.inr.inr => simp [show op ≠ 1 by omega, show op ≠ 2 by omega, show op ≠ 3 by omega, show op ≠ 4 by omega, show op ≠ 5 by omega, show op ≠ 6 by omega, show op ≠ 7 by omega, show op ≠ 8 by omega, show op ≠ 9 by omega, show op ≠ 10 by omega, show op ≠ 11 by omega, show op ≠ 12 by omega, show op ≠ 13 by omega, show op ≠ 14 by omega, show op ≠ 15 by omega, show op ≠ 16 by omega, show op ≠ 17 by omega, show op ≠ 18 by omega, show op ≠ 19 by omega]
  all_goals first
    | (simp; done)
    | grind
theorem lIns_true (k : Nat) (op s r m er e b : Int) : spec_GoodIns.j0 (k + 3) true op s r m er e b = some false := by simp [spec_GoodIns.j0]
theorem lGoodIns_eq (k : Nat) (op s r m er e b : Int) : spec_GoodIns.f (k + 3) op s r m er e b = some (goodIns op s r m er e b) := by
  unfold spec_GoodIns.f goodIns
  simp only [lSize_eq, l1In_eq, lGoodOperand_eq, Option.bind_some, decide_eq_true_eq, lIns_true, lIns_kind]
  have hm : (m == 7) = decide (m = 7) := rfl
  have hs : (s == 1) = decide (s = 1) := rfl
  by_cases h1 : s = 1 ∨ s = 2 <;> by_cases h2 : 0 ≤ r ∧ r ≤ 3 <;> cases h3 : goodEa m er e <;> by_cases h4 : 0 ≤ b ∧ b ≤ 7 <;> simp only [h1, h2, h4, if_true, if_false, decide_true, decide_false, Bool.true_and, Bool.false_and, Bool.and_false, Bool.false_eq_true, hm, hs, and_self]
  by_cases h5 : m = 7 <;> by_cases h6 : s = 1 <;> by_cases h7 : e > 255 <;> simp [h5, h6, h7, lIns_true, lIns_kind]
theorem iKind_eq (k : Nat) (op s r m er e b : Int) (hs : s = 1 ∨ s = 2) (hb : 0 ≤ b) : impl_isKind.f (k + 3) op s r m er e b = some (kindB op s r m er e b) := by
  have hcases : (op = 1 ∨ op = 3 ∨ op = 4 ∨ op = 5 ∨ op = 6 ∨ op = 7 ∨ op = 8) ∨ op = 2 ∨ op = 9 ∨ op = 10 ∨ op = 11 ∨ op = 12 ∨ op = 13 ∨ op = 14 ∨ op = 15 ∨ op = 16 ∨ op = 17 ∨ op = 18 ∨ op = 19 ∨ (op < 1 ∨ 19 < op) := by omega
  simp only [impl_isKind.f, impl_isKind.j0, impl_isKind.j1, impl_isFlow.f, impl_isFlow.j0, isSettable_eq, isPlain_eq, isNow_eq, Option.bind_some]
  unfold kindB zeroB
  rcases hcases with (rfl | rfl | rfl | rfl | rfl | rfl | rfl) | rfl | rfl | rfl | rfl | rfl | rfl | rfl | rfl | rfl | rfl | rfl | rfl | h
  case inr.inr.inr.inr.inr.inr.inr.inr.inr.inr.inr.inr.inr => simp [show op ≠ 1 by omega, show op ≠ 2 by omega, show op ≠ 3 by omega, show op ≠ 4 by omega, show op ≠ 5 by omega, show op ≠ 6 by omega, show op ≠ 7 by omega, show op ≠ 8 by omega, show op ≠ 9 by omega, show op ≠ 10 by omega, show op ≠ 11 by omega, show op ≠ 12 by omega, show op ≠ 13 by omega, show op ≠ 14 by omega, show op ≠ 15 by omega, show op ≠ 16 by omega, show op ≠ 17 by omega, show op ≠ 18 by omega, show op ≠ 19 by omega]
  case inr.inr.inr.inr.inr.inr.inr.inr.inl =>
    by_cases h3 : b = 3
    · subst h3
      rcases hs with rfl | rfl <;> by_cases hr : r = 0 <;> simp [hr]
    · by_cases h6 : b ≤ 6
      · have e6 : ¬ b > 6 := by omega
        by_cases hl : b < 3
        · have e3 : ¬ 3 < b := by omega
          rcases hs with rfl | rfl <;> by_cases hr : r = 0 <;> simp [h3, h6, e6, hl, e3, hr]
        · have e3 : 3 < b := by omega
          rcases hs with rfl | rfl <;> by_cases hr : r = 0 <;> simp [h3, h6, e6, hl, e3, hr]
      · have e6 : b > 6 := by omega
        rcases hs with rfl | rfl <;> simp [h3, h6, e6]
  all_goals first
    | (simp; done)
    | grind
theorem iGoodIns_eq (k : Nat) (op s r m er e b : Int) : impl_GoodIns.f (k + 3) op s r m er e b = some (goodIns op s r m er e b) := by
  unfold impl_GoodIns.f goodIns
  simp only [isSize_eq, within_eq, goodOperand_eq, Option.bind_some, decide_eq_true_eq]
  by_cases h1 : s = 1 ∨ s = 2
  · by_cases h4 : 0 ≤ b ∧ b ≤ 7
    · rw [iKind_eq k op s r m er e b h1 h4.1]
      rcases h1 with rfl | rfl <;> cases h3 : goodEa m er e <;> by_cases h2 : 0 ≤ r ∧ r ≤ 3 <;> by_cases h5 : m = 7 <;> by_cases h7 : e > 255 <;> simp [h2, h4, h5, h7]
    · simp [h1, h4]
  · simp [h1]
theorem good_parts {op s r m er e b : Int} (h : goodIns op s r m er e b = true) : (s = 1 ∨ s = 2) ∧ (0 ≤ r ∧ r ≤ 3) ∧ (0 ≤ b ∧ b ≤ 7) ∧ goodEa m er e = true ∧ kindB op s r m er e b = true := by
  unfold goodIns at h
  simp only [Bool.and_eq_true, decide_eq_true_eq] at h
  exact ⟨h.1.1.1.1.1, h.1.1.1.1.2, h.1.1.1.2, h.1.1.2, h.2⟩
theorem good_11 {op s r m er e b : Int} (h : goodIns op s r m er e b = true) (ho : op = 11) : b ≤ 3 := by
  have := (good_parts h).2.2.2.2
  subst ho
  simp [kindB] at this
  omega
theorem good_13 {op s r m er e b : Int} (h : goodIns op s r m er e b = true) (ho : op = 13) : r ≤ 1 := by
  have := (good_parts h).2.2.2.2
  subst ho
  simp [kindB] at this
  omega
theorem good_15 {op s r m er e b : Int} (h : goodIns op s r m er e b = true) (ho : op = 15) : b ≤ 6 := by
  have := (good_parts h).2.2.2.2
  subst ho
  simp only [kindB] at this
  by_cases h3 : b = 3
  · omega
  · simp [h3] at this
    omega
def mayWriteB (op m b : Int) : Bool := if op = 2 then memB m else if op = 11 then decide (b < 3) && memB m else if op = 14 then b == 1 else false
def straightB (op b : Int) : Bool := if op = 13 ∨ op = 14 then false else if op = 15 then b == 2 || (b == 5 || b == 6) else if op = 19 then b != 0 else true
theorem lStraight_eq (k : Nat) (op s r m er e b : Int) : spec_l14Straight.f (k + 1) op s r m er e b = some (straightB op b) := by
  unfold spec_l14Straight.f straightB
  simp only [spec_l14Straight.j0]
  grind
theorem iStraight_eq (k : Nat) (op s r m er e b : Int) : impl_isStraight.f (k + 1) op s r m er e b = some (straightB op b) := by
  unfold impl_isStraight.f straightB
  simp only [impl_isStraight.j0]
  grind
theorem or_15_16 : bits .or .i64 15 16 = 31 := by decide +kernel
theorem or_15_0 : bits .or .i64 15 0 = 15 := by decide +kernel
theorem or_31_0 : bits .or .i64 31 0 = 31 := by decide +kernel
theorem or_0_15 : bits .or .i64 0 15 = 15 := by decide +kernel
theorem or_0_0 : bits .or .i64 0 0 = 0 := by decide +kernel
theorem or_31_15 : bits .or .i64 31 15 = 31 := by decide +kernel
theorem andNot_31_4 : bits .andNot .i64 31 4 = 27 := by decide +kernel
theorem andNot_31_16 : bits .andNot .i64 31 16 = 15 := by decide +kernel
def setsI (op b : Int) : Int :=
  if op = 1 ∨ op = 2 ∨ op = 5 ∨ op = 6 ∨ op = 7 ∨ op = 8 ∨ op = 16 ∨ op = 17 then 15 else if op = 3 ∨ op = 4 then 31 else if op = 11 then (if b = 1 then 31 else 15)
  else if op = 12 then (if b = 4 ∨ b = 5 then 15 else 31) else if op = 18 then 27 else if op = 15 then (if b = 1 ∨ b = 3 then 31 else if 5 ≤ b then 15 else 0) else if op = 19 then (if b = 0 then 31 else 0) else 0
theorem lFlag_eq (c : Bool) (f : Int) : spec_l1Flag.f c f = some (if c then f else 0) := by
  unfold spec_l1Flag.f
  cases c <;> rfl
theorem lSets_eq (k : Nat) (op s r m er e b : Int) : spec_l14Sets.f (k + 2) op s r m er e b = some (setsI op b) := by
  unfold spec_l14Sets.f setsI
  simp only [spec_l14Sets.j0, spec_l14Sets.j1, lFlag_eq, Option.bind_some]
  have hop : (op = 1 ∨ op = 2 ∨ op = 5 ∨ op = 6 ∨ op = 7 ∨ op = 8 ∨ op = 16 ∨ op = 17) ∨ (op = 3 ∨ op = 4) ∨ op = 11 ∨ op = 12 ∨ op = 18 ∨ op = 15 ∨ op = 19 ∨ (op ≠ 1 ∧ op ≠ 2 ∧ op ≠ 3 ∧ op ≠ 4 ∧ op ≠ 5 ∧ op ≠ 6 ∧ op ≠ 7 ∧ op ≠ 8 ∧ op ≠ 11 ∧ op ≠ 12 ∧ op ≠ 15 ∧ op ≠ 16 ∧ op ≠ 17 ∧ op ≠ 18 ∧ op ≠ 19) := by omega
  have hb : b = 0 ∨ b = 1 ∨ b = 3 ∨ b = 4 ∨ b = 5 ∨ b = 6 ∨ 7 ≤ b ∨ (b ≠ 0 ∧ b ≠ 1 ∧ b ≠ 3 ∧ b < 4) := by omega
  rcases hop with (rfl | rfl | rfl | rfl | rfl | rfl | rfl | rfl) | (rfl | rfl) | rfl | rfl | rfl | rfl | rfl | h
  case inr.inr.inr.inr.inr.inr.inr => simp [h]
  all_goals try (simp; done)
  all_goals
    rcases hb with rfl | rfl | rfl | rfl | rfl | rfl | hb | ⟨hb0, hb1, hb3, hb4⟩
    all_goals first
      | (simp [or_15_16, or_15_0, or_31_0, or_0_15, or_0_0]; done)
      | (simp [or_15_16, or_15_0, or_31_0, or_0_15, or_0_0, show ¬ b = 0 by omega, show ¬ b = 1 by omega, show ¬ b = 3 by omega, show ¬ b = 4 by omega, show ¬ b = 5 by omega, show ¬ b = 6 by omega, show 5 ≤ b by omega]; done)
      | (simp [or_15_16, or_15_0, or_31_0, or_0_15, or_0_0, show ¬ b = 0 by omega, show ¬ b = 1 by omega, show ¬ b = 3 by omega, show ¬ b = 4 by omega, show ¬ b = 5 by omega, show ¬ b = 6 by omega, show ¬ 5 ≤ b by omega]; done)
theorem iSets_eq (k : Nat) {op b : Int} (s r m er e : Int) (h15 : op = 15 → b ≤ 6) : impl_setsOf.f (k + 3) op s r m er e b = some (setsI op b) := by
  unfold impl_setsOf.f setsI
  simp only [impl_setsOf.j0, impl_setsOf.j1, impl_setsOf.j2, andNot_31_4]
  have hop : (op = 1 ∨ op = 2 ∨ op = 5 ∨ op = 6 ∨ op = 7 ∨ op = 8 ∨ op = 16 ∨ op = 17) ∨ (op = 3 ∨ op = 4) ∨ op = 11 ∨ op = 12 ∨ op = 18 ∨ op = 15 ∨ op = 19 ∨ (op ≠ 1 ∧ op ≠ 2 ∧ op ≠ 3 ∧ op ≠ 4 ∧ op ≠ 5 ∧ op ≠ 6 ∧ op ≠ 7 ∧ op ≠ 8 ∧ op ≠ 11 ∧ op ≠ 12 ∧ op ≠ 15 ∧ op ≠ 16 ∧ op ≠ 17 ∧ op ≠ 18 ∧ op ≠ 19) := by omega
  have hb : b = 0 ∨ b = 1 ∨ b = 3 ∨ b = 4 ∨ b = 5 ∨ b = 6 ∨ 7 ≤ b ∨ (b ≠ 0 ∧ b ≠ 1 ∧ b ≠ 3 ∧ b < 4) := by omega
  rcases hop with (rfl | rfl | rfl | rfl | rfl | rfl | rfl | rfl) | (rfl | rfl) | rfl | rfl | rfl | rfl | rfl | h
  case inr.inr.inr.inr.inr.inr.inr => simp [h]
  all_goals try (simp; done)
  all_goals
    rcases hb with rfl | rfl | rfl | rfl | rfl | rfl | hb | ⟨hb0, hb1, hb3, hb4⟩
    all_goals first
      | (simp [or_15_16, or_15_0, or_31_0, or_0_15, or_0_0]; done)
      | (simp [or_15_16, or_15_0, or_31_0, or_0_15, or_0_0, show ¬ b = 0 by omega, show ¬ b = 1 by omega, show ¬ b = 3 by omega, show ¬ b = 4 by omega, show ¬ b = 5 by omega, show ¬ b = 6 by omega, show 5 ≤ b by omega]; done)
      | (exfalso; have := h15 rfl; omega)
      | (simp [or_15_16, or_15_0, or_31_0, or_0_15, or_0_0, show ¬ b = 0 by omega, show ¬ b = 1 by omega, show ¬ b = 3 by omega, show ¬ b = 4 by omega, show ¬ b = 5 by omega, show ¬ b = 6 by omega, show ¬ 5 ≤ b by omega]; done)
theorem needs_all : ∀ c : Fin 16, spec_l8Needs.f (c.val : Int) = impl_needsOf.f (c.val : Int) ∧ (spec_l8Needs.f (c.val : Int)).isSome = true := by decide +kernel
theorem needs_same {c : Int} (h0 : 0 ≤ c) (h1 : c ≤ 15) : ∃ v, spec_l8Needs.f c = some v ∧ impl_needsOf.f c = some v := by
  obtain ⟨n, rfl⟩ := Int.eq_ofNat_of_zero_le h0
  obtain ⟨h, hs⟩ := needs_all ⟨n, by omega⟩
  obtain ⟨v, hv⟩ := Option.isSome_iff_exists.1 hs
  exact ⟨v, hv, h ▸ hv⟩
theorem reads_both (k : Nat) {op r b : Int} (s m er e : Int) (hr : 0 ≤ r) (hb : 0 ≤ b ∧ b ≤ 7) (h13 : op = 13 → r ≤ 1) :
    ∃ v, spec_l14Reads.f op s r m er e b = some v ∧ impl_readsOf.f (k + 1) op s r m er e b = some v := by
  by_cases ho : op = 13
  · have h1 : wrap64 (b + wrap64 (8 * r)) = b + 8 * r := by
      have := h13 ho
      rw [wrap64_id (n := 8 * r) (by omega) (by omega), wrap64_id (by omega) (by omega)]
    obtain ⟨v, e1, e2⟩ := needs_same (c := b + 8 * r) (by omega) (by have := h13 ho; omega)
    refine ⟨v, ?_, ?_⟩
    · unfold spec_l14Reads.f
      rw [if_pos ho, h1, e1]
      rfl
    · unfold impl_readsOf.f
      rw [if_pos ho, h1, e2]
      rfl
  · refine ⟨if op = 12 then (if 6 ≤ b then 16 else 0) else if op = 18 then 20 else if op = 19 then (if b = 1 then 31 else 0) else 0, ?_, ?_⟩
    · unfold spec_l14Reads.f
      simp only [lFlag_eq, Option.bind_some]
      grind
    · unfold impl_readsOf.f
      simp only [impl_readsOf.j0]
      grind
theorem lWrite_eq (op s r m er e b : Int) : spec_l14Write.f op s r m er e b = some (mayWriteB op m b) := by
  unfold spec_l14Write.f mayWriteB
  simp only [lMemory_eq, Option.bind_some]
  grind
theorem iWrite_eq {op b : Int} (s r m er e : Int) (h11 : op = 11 → b ≤ 3) : impl_mayWrite.f op s r m er e b = some (mayWriteB op m b) := by
  unfold impl_mayWrite.f mayWriteB
  simp only [isMemory_eq, Option.bind_some]
  by_cases h : op = 11
  · have e : decide (b < 3) = !decide (b = 3) := by
      have := h11 h
      rw [Bool.eq_iff_iff]
      simp
      omega
    rw [e]
    grind
  · grind
def mayFaultB (op m b : Int) : Bool := if op = 10 then false else if op = 14 then b == 1 else if op = 17 ∨ op = 18 then true else if op = 15 then decide (b ≤ 4) && b != 2 else if op = 19 then b == 0 else memB m
theorem lFault_eq (k : Nat) (op s r m er e b : Int) : spec_l14Fault.f (k + 1) op s r m er e b = some (mayFaultB op m b) := by
  unfold spec_l14Fault.f mayFaultB
  simp only [spec_l14Fault.j0, lMemory_eq, Option.bind_some]
  grind
theorem iFault_eq (k : Nat) {op b : Int} (s r m er e : Int) (h0 : 0 ≤ b) : impl_mayFault.f (k + 2) op s r m er e b = some (mayFaultB op m b) := by
  unfold impl_mayFault.f mayFaultB
  simp only [impl_mayFault.j0, impl_mayFault.j1, isMemory_eq, Option.bind_some]
  by_cases h14 : op = 14
  · subst h14
    rw [iWrite_eq s r m er e (by omega)]
    simp [mayWriteB]
  · by_cases h10 : op = 10
    · subst h10
      rw [iWrite_eq s r m er e (by omega)]
      simp [mayWriteB]
    · by_cases h15 : op = 15
      · subst h15
        have : b = 0 ∨ b = 1 ∨ b = 2 ∨ b = 3 ∨ b = 4 ∨ 5 ≤ b := by omega
        rcases this with rfl | rfl | rfl | rfl | rfl | h5
        all_goals try simp
        have e0 : ¬ b = 0 := by omega
        have e1 : ¬ b = 1 := by omega
        have e3 : ¬ b = 3 := by omega
        have e4 : ¬ b = 4 := by omega
        have e5 : ¬ b ≤ 4 := by omega
        simp [e0, e1, e3, e4, e5]
      · have hb : ∀ c : Int, (b == c) = decide (b = c) := fun _ => rfl
        grind
theorem stepNat {i n : Nat} (h : i < n) (hn : n ≤ 1048576) : wrap64 ((i : Int) + 1) = ((i + 1 : Nat) : Int) := by
  rw [wrap64_id (by omega) (by omega)]
  omega
theorem rdI {l : List Int} {i : Nat} (h : i < l.length) : rd l (i : Int) = l[i] := by
  simp [rd, List.getElem?_eq_getElem h]
theorem setMap {α β : Type} (f : α → β) (z : β) (l : List α) (i m : Nat) (h : i + (m + 1) = l.length) :
    ((l.take i).map f ++ List.replicate (m + 1) z).set i (f (l[i]'(by omega))) = (l.take (i + 1)).map f ++ List.replicate m z := by
  have hi : i < l.length := by omega
  rw [List.set_append_right _ _ (by simp; omega), List.take_succ_eq_append_getElem hi, List.map_append, List.append_assoc]
  congr 1
  have : i - ((l.take i).map f).length = 0 := by simp; omega
  rw [this, List.replicate_succ]
  rfl
/-- The four lists of a processor are short, and the rounds are enough for them. -/
def Fits (k : Nat) (n : Nat) : Prop := n ≤ 1048576 ∧ n < k
theorem rdIL {l : List S81} {i : Nat} (h : i < l.length) : rd_T81 l (i : Int) = l[i] := by
  simp [rd_T81, h]
theorem rdII {l : List S77} {i : Nat} (h : i < l.length) : rd_T77 l (i : Int) = l[i] := by
  simp [rd_T77, h]
/-- What the copy of one instruction is. -/
def convI (x : S81) : S77 := ⟨x.f0, x.f1, x.f2, ⟨x.f3.f0, x.f3.f1, x.f3.f2⟩, x.f4⟩
theorem toInsS_loop (l : List S81) (hl : l.length ≤ 1048576) : ∀ (m i k : Nat), i + m = l.length → m < k →
    laws_toInsS.l0 k l ((l.take i).map convI ++ List.replicate m z77) (i : Int) = some (l.map convI)
  | 0, i, k, h, hk => by
    obtain ⟨k, rfl⟩ : ∃ n, k = n + 1 := ⟨k - 1, by omega⟩
    rw [laws_toInsS.l0, if_neg (by omega), List.take_of_length_le (by omega)]
    simp
  | m + 1, i, k, h, hk => by
    obtain ⟨k, rfl⟩ : ∃ n, k = n + 1 := ⟨k - 1, by omega⟩
    have hi : i < l.length := by omega
    rw [laws_toInsS.l0, if_pos (by omega), if_pos (by omega), rdIL hi]
    unfold laws_toIns.f laws_toOperand.f
    simp only [Option.bind_some]
    rw [if_pos (by simp; omega), stepNat hi hl, Int.toNat_natCast]
    change laws_toInsS.l0 k l (((l.take i).map convI ++ List.replicate (m + 1) z77).set i (convI l[i])) ((i + 1 : Nat) : Int) = _
    rw [setMap convI z77 l i m h]
    exact toInsS_loop l hl m (i + 1) k (by omega) (by omega)
theorem toInsS_eq {l : List S81} {k : Nat} (h : Fits k l.length) : laws_toInsS.f k l = some (l.map convI) := by
  unfold laws_toInsS.f
  rw [if_pos (by omega), if_pos (by rw [Int.toNat_natCast]; have := h.1; omega)]
  have := toInsS_loop l h.1 l.length 0 k (by omega) h.2
  simpa using this
theorem eqIns_self (a b c d e f g : Int) : laws_eqIns.f a b c d e f g a b c d e f g = some true := by simp [laws_eqIns.f, laws_eqOperand.f]
theorem eqInsS_loop (l : List S77) (hl : l.length ≤ 1048576) : ∀ (m i k : Nat), i + m = l.length → m < k → laws_eqInsS.l0 k l l (i : Int) = some true
  | 0, i, k, h, hk => by
    obtain ⟨k, rfl⟩ : ∃ n, k = n + 1 := ⟨k - 1, by omega⟩
    rw [laws_eqInsS.l0, if_neg (by omega)]
  | m + 1, i, k, h, hk => by
    obtain ⟨k, rfl⟩ : ∃ n, k = n + 1 := ⟨k - 1, by omega⟩
    have hi : i < l.length := by omega
    rw [laws_eqInsS.l0, if_pos (by omega), if_pos (by omega), if_pos (by omega), eqIns_self, Option.bind_some, if_pos rfl, stepNat hi hl]
    exact eqInsS_loop l hl m (i + 1) k (by omega) (by omega)
theorem eqInsS_eq {l : List S77} {k : Nat} (h : Fits k l.length) : laws_eqInsS.f k l l = some true := by
  unfold laws_eqInsS.f
  rw [if_pos rfl]
  exact eqInsS_loop l h.1 l.length 0 k (by omega) h.2
theorem szInsS_eq (l : List S81) (a : Int) (ha : 0 ≤ a ∧ a ≤ 1048576) (h : l.length ≤ 9223372036854775807) : ∃ r, laws_szInsS.f l a = some r ∧ (r < 0 ∨ (0 ≤ r ∧ r ≤ 1048576 ∧ l.length ≤ 1048576)) := by
  unfold laws_szInsS.f
  rw [wrap64_id (by omega) (by omega)]
  by_cases h : a - (l.length : Int) < 0
  · rw [if_pos h]
    exact ⟨-1, rfl, Or.inl (by omega)⟩
  · rw [if_neg h]
    exact ⟨_, rfl, Or.inr (by omega)⟩
theorem bindList {α β : Type} {Q : β → Prop} {X : List α} {F : List α → Option β} {n : Nat} (hX : X.length = n) (h : ∀ y : List α, y.length = n → ∃ p, F y = some p ∧ Q p) : ∃ p, (some X).bind F = some p ∧ Q p := h X hX
theorem wOne {a : Int} (h0 : 0 ≤ a) (h1 : a ≤ 4611686018427387904) : wrap64 (a + 1) = a + 1 := wrap64_id (by omega) (by omega)
theorem markInsS_l0 (n : Nat) (hn : n ≤ 1048576) : ∀ (d k i : Nat) (a : Int) (x : List S77), x.length = n → i + d = n → d < k → 0 ≤ a → a + 7 * (d : Int) ≤ 4611686018427387904 →
    ∃ p, laws_markInsS.l0 k x a (i : Int) = some p ∧ 0 ≤ p.1 := by
  intro d
  induction d with
  | zero =>
    intro k i a x hx hi hk ha _
    obtain ⟨k, rfl⟩ : ∃ m, k = m + 1 := ⟨k - 1, by omega⟩
    rw [laws_markInsS.l0, if_neg (by omega)]
    exact ⟨_, rfl, ha⟩
  | succ d ih =>
    intro k i a x hx hi hk ha hb
    obtain ⟨k, rfl⟩ : ∃ m, k = m + 1 := ⟨k - 1, by omega⟩
    have hlt : i < x.length := by omega
    rw [laws_markInsS.l0, if_pos (by omega), if_pos (by omega), stepNat (n := n) (by omega) hn]
    rw [wOne ha (by omega), wOne (a := a + 1) (by omega) (by omega), wOne (a := a + 1 + 1) (by omega) (by omega), wOne (a := a + 1 + 1 + 1) (by omega) (by omega), wOne (a := a + 1 + 1 + 1 + 1) (by omega) (by omega), wOne (a := a + 1 + 1 + 1 + 1 + 1) (by omega) (by omega), wOne (a := a + 1 + 1 + 1 + 1 + 1 + 1) (by omega) (by omega)]
    refine bindList (n := n) (by rw [List.length_set]; exact hx) (fun y1 h1 => ?_)
    refine bindList (n := n) (by rw [List.length_set]; exact h1) (fun y2 h2 => ?_)
    refine bindList (n := n) (by rw [List.length_set]; exact h2) (fun y3 h3 => ?_)
    refine bindList (n := n) (by rw [List.length_set]; exact h3) (fun y4 h4 => ?_)
    refine bindList (n := n) (by rw [List.length_set]; exact h4) (fun y5 h5 => ?_)
    refine bindList (n := n) (by rw [List.length_set]; exact h5) (fun y6 h6 => ?_)
    exact ih k (i + 1) (a + 1 + 1 + 1 + 1 + 1 + 1 + 1) _ (by rw [List.length_set]; exact h6) (by omega) (by omega) (by omega) (by omega)
theorem markInsS_ok {x : List S77} {k : Nat} (h : Fits k x.length) : ∃ p, laws_markInsS.f k x 1 = some p ∧ 0 ≤ p.1 := by
  unfold laws_markInsS.f
  exact markInsS_l0 x.length h.1 x.length k 0 1 x rfl (by omega) h.2 (by omega) (by have := h.1; omega)
/-- Whether an instruction is a good one; whether it is straight. -/
def goodI (x : S77) : Bool := goodIns x.f0 x.f1 x.f2 x.f3.f0 x.f3.f1 x.f3.f2 x.f4
def strI (x : S77) : Bool := straightB x.f0 x.f4
theorem rdB {l : List Bool} {i : Nat} (h : i < l.length) : rdOf false l (i : Int) = l[i] := by
  simp [rdOf, List.getElem?_eq_getElem h]
theorem eqBool_loop (l : List Bool) (hl : l.length ≤ 1048576) : ∀ (m i k : Nat), i + m = l.length → m < k → laws_eqBoolS.l0 k l l (i : Int) = some true
  | 0, i, k, h, hk => by
    obtain ⟨k, rfl⟩ : ∃ n, k = n + 1 := ⟨k - 1, by omega⟩
    rw [laws_eqBoolS.l0, if_neg (by omega)]
  | m + 1, i, k, h, hk => by
    obtain ⟨k, rfl⟩ : ∃ n, k = n + 1 := ⟨k - 1, by omega⟩
    have hi : i < l.length := by omega
    rw [laws_eqBoolS.l0, if_pos (by omega), if_pos (by omega), if_pos (by omega), if_neg (by simp), stepNat hi hl]
    exact eqBool_loop l hl m (i + 1) k (by omega) (by omega)
theorem eqBool_eq {l : List Bool} {k : Nat} (h : Fits k l.length) : laws_eqBoolS.f k l l = some true := by
  unfold laws_eqBoolS.f
  rw [if_pos rfl]
  exact eqBool_loop l h.1 l.length 0 k (by omega) h.2
/-- The marks of bools from a number on. -/
def uptoB (a : Int) : Nat → List Bool
  | 0 => []
  | n + 1 => (Int.tmod a 3 == 0) :: uptoB (a + 1) n
theorem uptoB_length (a : Int) (n : Nat) : (uptoB a n).length = n := by
  induction n generalizing a with
  | zero => rfl
  | succ n ih => simp [uptoB, ih]
theorem markB_l0 (n : Nat) (hn : n ≤ 1048576) : ∀ (d k i : Nat) (a : Int) (x : List Bool), x.length = n → i + d = n → d < k → 0 ≤ a → a + (d : Int) ≤ 4611686018427387904 →
    laws_markBoolS.l0 k x a (i : Int) = some (a + (d : Int), x.take i ++ uptoB a d) := by
  intro d
  induction d with
  | zero =>
    intro k i a x hx hi hk _ _
    obtain ⟨k, rfl⟩ : ∃ m, k = m + 1 := ⟨k - 1, by omega⟩
    rw [laws_markBoolS.l0, if_neg (by omega)]
    simp [uptoB, List.take_of_length_le (show x.length ≤ i by omega)]
  | succ d ih =>
    intro k i a x hx hi hk ha hb
    obtain ⟨k, rfl⟩ : ∃ m, k = m + 1 := ⟨k - 1, by omega⟩
    rw [laws_markBoolS.l0, if_pos (by omega), if_pos (by omega), Int.toNat_natCast, wrap64_id (n := a + 1) (by omega) (by omega), stepNat (n := n) (by omega) hn]
    have hset : ∀ e : Bool, (x.set i e).take (i + 1) = x.take i ++ [e] := by
      intro e
      rw [List.take_succ_eq_append_getElem (by simp; omega), List.take_set, List.set_eq_of_length_le (by simp; omega)]
      simp
    rw [ih k (i + 1) (a + 1) (x.set i _) (by simp [hx]) (by omega) (by omega) (by omega) (by omega), hset]
    simp [uptoB]
    omega
theorem markB_eq {x : List Bool} {k : Nat} (h : Fits k x.length) : laws_markBoolS.f k x 1 = some (1 + (x.length : Int), uptoB 1 x.length) := by
  unfold laws_markBoolS.f
  have := markB_l0 x.length h.1 x.length k 0 1 x rfl (by omega) h.2 (by omega) (by have := h.1; omega)
  simpa using this
theorem heldB_l0 (x : List Bool) (hx : x.length ≤ 1048576) : ∀ (d k i : Nat) (a : Int), x.drop i = uptoB a d → i + d = x.length → d < k → 0 ≤ a → a + (d : Int) ≤ 4611686018427387904 →
    laws_heldBoolS.l0 k x a (i : Int) = some (a + (d : Int)) := by
  intro d
  induction d with
  | zero =>
    intro k i a hd hi hk _ _
    obtain ⟨k, rfl⟩ : ∃ m, k = m + 1 := ⟨k - 1, by omega⟩
    rw [laws_heldBoolS.l0, if_neg (by omega)]
    simp
  | succ d ih =>
    intro k i a hd hi hk ha hb
    obtain ⟨k, rfl⟩ : ∃ m, k = m + 1 := ⟨k - 1, by omega⟩
    have hlt : i < x.length := by omega
    rw [List.drop_eq_getElem_cons hlt] at hd
    simp only [uptoB, List.cons.injEq] at hd
    rw [laws_heldBoolS.l0, if_pos (by omega), if_pos (by omega), rdB hlt, hd.1, if_neg (by simp), wrap64_id (n := a + 1) (by omega) (by omega), stepNat hlt hx, ih k (i + 1) (a + 1) hd.2 (by omega) (by omega) (by omega) (by omega)]
    simp
    omega
theorem heldB_eq {n k : Nat} (h : Fits k n) : laws_heldBoolS.f k (uptoB 1 n) 1 = some (1 + (n : Int)) := by
  unfold laws_heldBoolS.f
  have hl := uptoB_length 1 n
  exact heldB_l0 (uptoB 1 n) (by rw [hl]; exact h.1) n k 0 1 (by simp) (by omega) h.2 (by omega) (by have := h.1; omega)
def rowB (l : List S77) : Bool := l.all (fun x => goodI x && strI x) && decide ((l.length : Int) ≤ 16)
theorem lRow_loop (l : List S77) (hl : l.length ≤ 1048576) : ∀ (m i k : Nat), i + m = l.length → m + 4 < k →
    spec_l14Row.l0 k l l (l.length : Int) (i : Int) = some ((l.drop i).all (fun x => goodI x && strI x) && decide ((l.length : Int) ≤ 16))
  | 0, i, k, h, hk => by
    obtain ⟨k, rfl⟩ : ∃ n, k = n + 1 := ⟨k - 1, by omega⟩
    rw [spec_l14Row.l0, if_neg (by omega), List.drop_of_length_le (by omega)]
    rfl
  | m + 1, i, k, h, hk => by
    obtain ⟨k, rfl⟩ : ∃ n, k = n + 4 := ⟨k - 4, by omega⟩
    have hi : i < l.length := by omega
    rw [show k + 4 = (k + 3) + 1 from rfl, spec_l14Row.l0, if_pos (by omega), if_pos (by omega), if_pos (by omega), rdII hi, lGoodIns_eq k, Option.bind_some, List.drop_eq_getElem_cons hi, List.all_cons, stepNat hi hl]
    change (if goodI l[i] = true then _ else _) = _
    cases goodI l[i] with
    | false => rfl
    | true =>
      rw [if_pos rfl, lStraight_eq (k + 2), Option.bind_some]
      change (if strI l[i] = true then _ else _) = _
      cases strI l[i] with
      | false => rfl
      | true =>
        rw [if_pos rfl]
        exact lRow_loop l hl m (i + 1) (k + 3) (by omega) (by omega)
theorem lRow_eq {l : List S77} (hl : l.length ≤ 1048576) {k : Nat} (hk : l.length + 4 < k) : spec_l14Row.f k l = some (rowB l) := by
  unfold spec_l14Row.f rowB
  have := lRow_loop l hl l.length 0 k (by omega) hk
  simpa using this
theorem iRow1_eq (k : Nat) (x : S77) : impl_isRow_1.f (k + 3) x.f0 x.f1 x.f2 x.f3.f0 x.f3.f1 x.f3.f2 x.f4 = some (!(goodI x && strI x)) := by
  unfold impl_isRow_1.f
  rw [iGoodIns_eq k, Option.bind_some]
  change (if goodI x = true then _ else _) = _
  cases goodI x with
  | false => rfl
  | true =>
    rw [if_pos rfl, iStraight_eq (k + 2), Option.bind_some]
    rfl
theorem iRow_loop (l : List S77) (hl : l.length ≤ 1048576) : ∀ (m i k : Nat), i + m = l.length → m + 4 < k →
    ∃ r, slices_IndexFunc_123_g95.l0 k l (l.length : Int) (i : Int) = some r ∧ decide (r ≥ 0) = !(l.drop i).all (fun x => goodI x && strI x)
  | 0, i, k, h, hk => by
    obtain ⟨k, rfl⟩ : ∃ n, k = n + 1 := ⟨k - 1, by omega⟩
    rw [slices_IndexFunc_123_g95.l0, if_neg (by omega), List.drop_of_length_le (by omega)]
    exact ⟨_, rfl, rfl⟩
  | m + 1, i, k, h, hk => by
    obtain ⟨k, rfl⟩ : ∃ n, k = n + 4 := ⟨k - 4, by omega⟩
    have hi : i < l.length := by omega
    rw [show k + 4 = (k + 3) + 1 from rfl, slices_IndexFunc_123_g95.l0, if_pos (by omega), if_pos (by omega), if_pos (by omega), rdII hi, iRow1_eq k, Option.bind_some, List.drop_eq_getElem_cons hi, List.all_cons, stepNat hi hl]
    cases hb : (goodI l[i] && strI l[i]) with
    | false => exact ⟨_, rfl, by simp⟩
    | true =>
      rw [if_neg (by simp), Bool.true_and]
      exact iRow_loop l hl m (i + 1) (k + 3) (by omega) (by omega)
theorem iRow_eq {l : List S77} (hl : l.length ≤ 1048576) {k : Nat} (hk : l.length + 4 < k) : impl_isRow.f k l = some (rowB l) := by
  unfold impl_isRow.f slices_ContainsFunc_94_g95.f slices_IndexFunc_123_g95.f rowB
  obtain ⟨r, h1, h2⟩ := iRow_loop l hl l.length 0 k (by omega) hk
  rw [show ((0 : Nat) : Int) = 0 from rfl] at h1
  rw [h1]
  simp only [Option.bind_some, h2, Bool.not_not, List.drop_zero]
  by_cases h : (l.length : Int) ≤ 16
  · simp [h]
  · simp [h]
theorem needs_rng : ∀ c : Fin 16, (spec_l8Needs.f (c.val : Int)).all (fun v => decide (0 ≤ v ∧ v ≤ 31)) = true := by decide +kernel
theorem reads_in (k : Nat) {x : S77} (h : goodI x = true) : ∃ v, spec_l14Reads.f x.f0 x.f1 x.f2 x.f3.f0 x.f3.f1 x.f3.f2 x.f4 = some v ∧ impl_readsOf.f (k + 1) x.f0 x.f1 x.f2 x.f3.f0 x.f3.f1 x.f3.f2 x.f4 = some v ∧ 0 ≤ v ∧ v ≤ 31 := by
  obtain ⟨v, e1, e2⟩ := reads_both k x.f1 x.f3.f0 x.f3.f1 x.f3.f2 (good_parts h).2.1.1 (good_parts h).2.2.1 (good_13 h)
  refine ⟨v, e1, e2, ?_⟩
  have hb := (good_parts h).2.2.1
  have hr := (good_parts h).2.1.1
  have h13 := good_13 h
  unfold spec_l14Reads.f at e1
  by_cases ho : x.f0 = 13
  · have h1 : wrap64 (x.f4 + wrap64 (8 * x.f2)) = x.f4 + 8 * x.f2 := by
      have := h13 ho
      rw [wrap64_id (n := 8 * x.f2) (by omega) (by omega), wrap64_id (by omega) (by omega)]
    rw [if_pos ho, h1] at e1
    have := needs_rng ⟨(x.f4 + 8 * x.f2).toNat, by have := h13 ho; omega⟩
    simp only [Int.toNat_of_nonneg (show 0 ≤ x.f4 + 8 * x.f2 by omega)] at this
    cases hv : spec_l8Needs.f (x.f4 + 8 * x.f2) with
    | none => rw [hv] at e1; cases e1
    | some u =>
      rw [hv] at e1 this
      simp at e1 this
      omega
  · rw [if_neg ho] at e1
    simp only [lFlag_eq, Option.bind_some] at e1
    grind
theorem need_bits : ∀ n s : Fin 32, 0 ≤ bits .andNot .i64 (n.val : Int) (s.val : Int) ∧ bits .andNot .i64 (n.val : Int) (s.val : Int) ≤ 31 ∧ bits .or .i64 (n.val : Int) (s.val : Int) = bits .or .i64 (s.val : Int) (n.val : Int) ∧
    0 ≤ bits .or .i64 (n.val : Int) (s.val : Int) ∧ bits .or .i64 (n.val : Int) (s.val : Int) ≤ 31 := by decide +kernel
theorem or_ends : ∀ n : Fin 32, bits .or .i64 (n.val : Int) 0 = (n.val : Int) ∧ bits .or .i64 (n.val : Int) 31 = 31 := by decide +kernel
/-- What is needed ahead of an instruction: the two ways to tell it are one. -/
theorem need_same {n s v : Int} (hn : 0 ≤ n ∧ n ≤ 31) (hs : 0 ≤ s ∧ s ≤ 31) (hv : 0 ≤ v ∧ v ≤ 31) (f : Bool) :
    bits .or .i64 (bits .or .i64 (bits .andNot .i64 n s) v) (if f then 31 else 0) = (if f then 31 else bits .or .i64 v (bits .andNot .i64 n s)) ∧
    0 ≤ (if f then 31 else bits .or .i64 v (bits .andNot .i64 n s)) ∧ (if f then 31 else bits .or .i64 v (bits .andNot .i64 n s)) ≤ 31 := by
  obtain ⟨a, rfl⟩ := Int.eq_ofNat_of_zero_le hn.1
  obtain ⟨b, rfl⟩ := Int.eq_ofNat_of_zero_le hs.1
  have h1 := need_bits ⟨a, by omega⟩ ⟨b, by omega⟩
  simp only at h1
  generalize bits .andNot .i64 (a : Int) (b : Int) = u at *
  obtain ⟨h10, h11, _⟩ := h1
  obtain ⟨c, rfl⟩ := Int.eq_ofNat_of_zero_le h10
  obtain ⟨d, rfl⟩ := Int.eq_ofNat_of_zero_le hv.1
  have h2 := need_bits ⟨c, by omega⟩ ⟨d, by omega⟩
  simp only at h2
  obtain ⟨_, _, h23, h24, h25⟩ := h2
  rw [← h23]
  generalize bits .or .i64 (c : Int) (d : Int) = e at *
  obtain ⟨g, rfl⟩ := Int.eq_ofNat_of_zero_le h24
  have h3 := or_ends ⟨g, by omega⟩
  simp only at h3
  cases f
  · exact ⟨h3.1, by omega, by omega⟩
  · exact ⟨h3.2, by simp, by simp⟩
theorem setsI_31 (op b : Int) : 0 ≤ setsI op b ∧ setsI op b ≤ 31 := by
  unfold setsI
  grind
theorem dead_loop (l : List S77) (hl : l.length ≤ 1048576) (hg : ∀ x ∈ l, goodI x = true) : ∀ (n : Nat) (out : List Bool) (need : Int), n ≤ l.length → out.length = l.length → 0 ≤ need ∧ need ≤ 31 →
    ∃ r : List Bool, r.length = l.length ∧ (∀ k, 2 * n + 6 < k → spec_l14Dead.l0 k l out need ((n : Int) - 1) = some r) ∧ (∀ k, 2 * n + 6 < k → impl_deadFlags.l0 k l out need ((n : Int) - 1) = some r) := by
  intro n
  induction n with
  | zero =>
    intro out need _ ho _
    refine ⟨out, ho, fun k hk => ?_, fun k hk => ?_⟩
    · obtain ⟨k, rfl⟩ : ∃ n, k = n + 1 := ⟨k - 1, by omega⟩
      rw [spec_l14Dead.l0, if_neg (by omega)]
    · obtain ⟨k, rfl⟩ : ∃ n, k = n + 1 := ⟨k - 1, by omega⟩
      rw [impl_deadFlags.l0, if_neg (by omega)]
  | succ n ih =>
    intro out need hn ho hd
    have hi : n < l.length := by omega
    have hgi : goodI l[n] = true := hg _ (List.getElem_mem hi)
    have hs := setsI_31 l[n].f0 l[n].f4
    have e1 : ((n + 1 : Nat) : Int) - 1 = (n : Int) := by omega
    have e2 : wrap64 ((n : Int) - 1) = (n : Int) - 1 := wrap64_id (by omega) (by omega)
    obtain ⟨v, hv1, _, hv⟩ := reads_in 0 hgi
    have hns := need_same hd hs hv (mayFaultB l[n].f0 l[n].f3.f0 l[n].f4)
    have hlf : ∀ k, spec_l14Fault.f (k + 1) l[n].f0 l[n].f1 l[n].f2 l[n].f3.f0 l[n].f3.f1 l[n].f3.f2 l[n].f4 = some (mayFaultB l[n].f0 l[n].f3.f0 l[n].f4) := fun k => lFault_eq k _ _ _ _ _ _ _
    have hif : ∀ k, impl_mayFault.f (k + 2) l[n].f0 l[n].f1 l[n].f2 l[n].f3.f0 l[n].f3.f1 l[n].f3.f2 l[n].f4 = some (mayFaultB l[n].f0 l[n].f3.f0 l[n].f4) := fun k => iFault_eq k _ _ _ _ _ (good_parts hgi).2.2.1.1
    have hrd : spec_l14Reads.f l[n].f0 l[n].f1 l[n].f2 l[n].f3.f0 l[n].f3.f1 l[n].f3.f2 l[n].f4 = some v ∧ ∀ k, impl_readsOf.f (k + 1) l[n].f0 l[n].f1 l[n].f2 l[n].f3.f0 l[n].f3.f1 l[n].f3.f2 l[n].f4 = some v := by
      refine ⟨hv1, fun k => ?_⟩
      obtain ⟨v', g1, g2, _⟩ := reads_in k hgi
      have : v' = v := Option.some.inj (g1.symm.trans hv1)
      exact this ▸ g2
    have hset : ∀ b : Bool, (out.set n b).length = l.length := fun b => by simp [ho]
    obtain ⟨r, hr, h1, h2⟩ := ih (out.set n (setsI l[n].f0 l[n].f4 != 0 && (bits .and .i64 (setsI l[n].f0 l[n].f4) need == 0 && !mayWriteB l[n].f0 l[n].f3.f0 l[n].f4))) _ (by omega) (hset _) ⟨hns.2.1, hns.2.2⟩
    refine ⟨r, hr, fun k hk => ?_, fun k hk => ?_⟩
    · obtain ⟨k, rfl⟩ : ∃ m, k = m + 3 := ⟨k - 3, by omega⟩
      rw [e1, show k + 3 = (k + 2) + 1 from rfl, spec_l14Dead.l0, if_pos (by omega), if_pos (by omega), if_pos (by omega), rdII hi, lSets_eq k, Option.bind_some, Int.toNat_natCast, e2]
      simp only [hrd.1, hlf (k + 1), lFlag_eq, lWrite_eq, Option.bind_some, ho, hns.1]
      have h1' := h1 (k + 2) (by omega)
      by_cases c1 : setsI l[n].f0 l[n].f4 = 0
      · rw [if_pos c1, if_pos (by omega)]
        rw [show (setsI l[n].f0 l[n].f4 != 0 && (bits .and .i64 (setsI l[n].f0 l[n].f4) need == 0 && !mayWriteB l[n].f0 l[n].f3.f0 l[n].f4)) = false by simp [c1]] at h1'
        exact h1'
      · rw [if_neg c1]
        by_cases c2 : bits .and .i64 (setsI l[n].f0 l[n].f4) need = 0
        · rw [if_pos c2, if_pos (by omega)]
          rw [show (setsI l[n].f0 l[n].f4 != 0 && (bits .and .i64 (setsI l[n].f0 l[n].f4) need == 0 && !mayWriteB l[n].f0 l[n].f3.f0 l[n].f4)) = !mayWriteB l[n].f0 l[n].f3.f0 l[n].f4 by simp [c1, c2]] at h1'
          exact h1'
        · rw [if_neg c2, if_pos (by omega)]
          rw [show (setsI l[n].f0 l[n].f4 != 0 && (bits .and .i64 (setsI l[n].f0 l[n].f4) need == 0 && !mayWriteB l[n].f0 l[n].f3.f0 l[n].f4)) = false by simp [c1, c2]] at h1'
          exact h1'
    · obtain ⟨k, rfl⟩ : ∃ m, k = m + 4 := ⟨k - 4, by omega⟩
      have hj : ∀ b : Bool, b = (setsI l[n].f0 l[n].f4 != 0 && (bits .and .i64 (setsI l[n].f0 l[n].f4) need == 0 && !mayWriteB l[n].f0 l[n].f3.f0 l[n].f4)) →
          impl_deadFlags.j1 (k + 3) l (out.set n b) need (n : Int) (setsI l[n].f0 l[n].f4) l[n].f0 l[n].f1 l[n].f2 l[n].f3.f0 l[n].f3.f1 l[n].f3.f2 l[n].f4 = some r := by
        intro b hb
        rw [show k + 3 = (k + 2) + 1 from rfl, impl_deadFlags.j1, hrd.2 (k + 1), Option.bind_some, hif k, Option.bind_some, e2, hb]
        have h2' := h2 (k + 2) (by omega)
        cases hf : mayFaultB l[n].f0 l[n].f3.f0 l[n].f4 with
        | true => rw [if_pos rfl]; simpa [hf] using h2'
        | false => rw [if_neg (by simp)]; simpa [hf] using h2'
      rw [e1, show k + 4 = (k + 3) + 1 from rfl, impl_deadFlags.l0, if_pos (by omega), if_pos (by omega), if_pos (by omega), rdII hi, iSets_eq k l[n].f1 l[n].f2 l[n].f3.f0 l[n].f3.f1 l[n].f3.f2 (good_15 hgi), Option.bind_some, Int.toNat_natCast]
      simp only [iWrite_eq l[n].f1 l[n].f2 l[n].f3.f0 l[n].f3.f1 l[n].f3.f2 (good_11 hgi), Option.bind_some, ho]
      by_cases c1 : setsI l[n].f0 l[n].f4 = 0
      · rw [if_pos c1, if_pos (by omega)]
        exact hj _ (by simp [c1])
      · rw [if_neg c1]
        by_cases c2 : bits .and .i64 (setsI l[n].f0 l[n].f4) need = 0
        · rw [if_pos c2, if_pos (by omega)]
          exact hj _ (by simp [c1, c2])
        · rw [if_neg c2, if_pos (by omega)]
          exact hj _ (by simp [c1, c2])
theorem dead_eq {l : List S77} (hl : l.length ≤ 1048576) (hg : ∀ x ∈ l, goodI x = true) : ∃ r : List Bool, r.length = l.length ∧ ∀ k, 2 * l.length + 6 < k → spec_l14Dead.f k l = some r ∧ impl_deadFlags.f k l = some r := by
  obtain ⟨r, hr, h1, h2⟩ := dead_loop l hl hg l.length (List.replicate l.length false) 31 (by omega) (by simp) (by omega)
  refine ⟨r, hr, fun k hk => ?_⟩
  unfold spec_l14Dead.f impl_deadFlags.f
  rw [if_pos (by omega), if_pos (by rw [Int.toNat_natCast]; omega), if_pos (by omega), if_pos (by rw [Int.toNat_natCast]; omega), Int.toNat_natCast, wrap64_id (by omega) (by omega)]
  exact ⟨h1 k hk, h2 k hk⟩
theorem FnExactDeadFlags : ∀ (l0 : (List S81)), l0.length ≤ 9223372036854775807 → ∃ k, laws_FnExactDeadFlags.f k l0 = some true := by
  intro l h
  obtain ⟨r, hr, hc⟩ := szInsS_eq l 1048576 (by omega) h
  rcases hc with hc | ⟨p, _, s0⟩
  · refine ⟨0, ?_⟩
    unfold laws_FnExactDeadFlags.f
    rw [hr, Option.bind_some, if_pos hc]
  · refine ⟨4194304, ?_⟩
    have f0 : Fits 4194304 l.length := ⟨s0, by omega⟩
    have s1 : (l.map convI).length ≤ 1048576 := by simpa using s0
    have f1 : Fits 4194304 (l.map convI).length := ⟨s1, by omega⟩
    obtain ⟨m, hm, hm0⟩ := markInsS_ok f1
    have hs : ∃ (b : List Bool) (o : Bool), Fits 4194304 b.length ∧ spec_DeadFlags.f 4194304 (l.map convI) = some (b, o) ∧ impl_DeadFlags.f 4194304 (l.map convI) = some (b, o) := by
      unfold spec_DeadFlags.f impl_DeadFlags.f
      rw [lRow_eq s1 (by omega), iRow_eq s1 (by omega), Option.bind_some, Option.bind_some]
      cases hb : rowB (l.map convI) with
      | false => exact ⟨[], false, ⟨by simp, by simp⟩, rfl, rfl⟩
      | true =>
        have hg : ∀ x ∈ l.map convI, goodI x = true := by
          intro x hx
          unfold rowB at hb
          simp only [Bool.and_eq_true, List.all_eq_true] at hb
          exact (hb.1 x hx).1
        obtain ⟨b, hl, hd⟩ := dead_eq s1 hg
        obtain ⟨d1, d2⟩ := hd 4194304 (by omega)
        rw [if_pos rfl, if_pos rfl, d1, d2]
        exact ⟨b, true, ⟨by omega, by omega⟩, rfl, rfl⟩
    obtain ⟨b, o, fb, e1, e2⟩ := hs
    have fu : Fits 4194304 (uptoB 1 b.length).length := by rw [uptoB_length]; exact fb
    unfold laws_FnExactDeadFlags.f
    rw [hr, Option.bind_some, if_neg (by omega), toInsS_eq f0]
    simp only [Option.bind_some]
    rw [e1]
    simp only [Option.bind_some]
    rw [e2]
    simp only [Option.bind_some]
    rw [eqBool_eq fb, Option.bind_some, if_pos rfl, if_neg (by simp), eqInsS_eq f1, Option.bind_some, if_pos rfl, hm, Option.bind_some, if_neg (by omega), Option.bind_some, if_pos rfl, markB_eq fb, Option.bind_some]
    simp only
    rw [heldB_eq fb, Option.bind_some, if_neg (by omega), if_pos rfl, Option.bind_some, if_pos rfl, if_neg (by simp), Option.bind_some, if_neg (by omega), if_pos rfl]

end Go.Proofs.Ytjnifnhpnccpcaa.Pure
