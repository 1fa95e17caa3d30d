/- The law FnExactSetsOf as a plain function answers true for all arguments (numbers of 64 bits, lists of at most 2^63 - 1 elements). No other condition. -/
import Derived.Test.YtopmacbjbjaekaaMx16
import Derived.Test.YtopmacbjbjaekaaMath
set_option linter.unusedVariables false
set_option linter.unusedSimpArgs false
namespace Go.Proofs.Ytopmacbjbjaekaa.Pure
open Go.RowKit Go.Proofs.Ytopmacbjbjaekaa.M Go.Proofs.YtopmacbjbjaekaaW.PrintWords Go.Proofs.YtopmacbjbjaekaaW.PrintLast Go.Proofs.Ytopmacbjbjaekaa.Math

theorem l1In_eq (a b c : Int) : spec_l1In.f a b c = some (decide (b ≤ a ∧ a ≤ c)) := by
  unfold spec_l1In.f
  by_cases h : b ≤ a <;> simp [h]
theorem within_eq (a b c : Int) : impl_within.f a b c = some (decide (b ≤ a ∧ a ≤ c)) := by
  unfold impl_within.f
  by_cases h : b ≤ a <;> simp [h]
theorem l6Word_eq (a : Int) : spec_l6Word.f a = some (decide (0 ≤ a ∧ a ≤ 65535)) := by
  unfold spec_l6Word.f
  rw [l1In_eq]
  rfl
theorem isWord_eq (a : Int) : impl_isWord.f a = some (decide (0 ≤ a ∧ a ≤ 65535)) := by
  unfold impl_isWord.f
  rw [within_eq]
  rfl
theorem lSize_eq (s : Int) : spec_l1Size.f s = some (decide (s = 1 ∨ s = 2)) := by
  unfold spec_l1Size.f
  by_cases h : s = 1
  · simp [h]
  · by_cases h2 : s = 2 <;> simp [h, h2]
theorem isSize_eq (s : Int) : impl_isSize.f s = some (decide (s = 1 ∨ s = 2)) := by
  unfold impl_isSize.f
  by_cases h : s = 1
  · simp [h]
  · by_cases h2 : s = 2 <;> simp [h, h2]
def memB (m : Int) : Bool := decide (2 ≤ m ∧ m ≤ 6)
def plainB (m : Int) : Bool := m == 2 || (m == 5 || m == 6)
def nowB (m e : Int) : Bool := m == 7 && decide (e ≤ 1023)
def zeroB (m r e : Int) : Bool := m == 0 && (r == 0 && (e == 0))
/-- Whether an operand is good. -/
def goodEa (m r e : Int) : Bool := decide (0 ≤ m ∧ m ≤ 7) && decide (0 ≤ r ∧ r ≤ 3) && decide (0 ≤ e ∧ e ≤ 65535) && (decide (5 ≤ m) || e == 0) && (decide (m < 6) || r == 0)
theorem lMemory_eq (m : Int) : spec_l7Memory.f m = some (memB m) := by
  unfold spec_l7Memory.f
  rw [l1In_eq]
  rfl
theorem isMemory_eq (m : Int) : impl_isMemory.f m = some (memB m) := by
  unfold impl_isMemory.f
  rw [within_eq]
  rfl
theorem lPlain_eq (m : Int) : spec_l7Plain.f m = some (plainB m) := by
  unfold spec_l7Plain.f plainB
  by_cases h : m = 2
  · simp [h]
  · have e1 : (m == 2) = false := beq_eq_false_iff_ne.2 h
    by_cases h2 : m = 5
    · simp [h2]
    · have e2 : (m == 5) = false := beq_eq_false_iff_ne.2 h2
      simp [h, h2, e1, e2]
theorem isPlain_eq (m : Int) : impl_isPlain.f m = some (plainB m) := by
  unfold impl_isPlain.f plainB
  by_cases h : m = 2
  · simp [h]
  · have e1 : (m == 2) = false := beq_eq_false_iff_ne.2 h
    by_cases h2 : m = 5
    · simp [h2]
    · have e2 : (m == 5) = false := beq_eq_false_iff_ne.2 h2
      simp [h, h2, e1, e2]
theorem lNow_eq (m r e : Int) : spec_l7Now.f m r e = some (nowB m e) := by
  unfold spec_l7Now.f nowB
  by_cases h : m = 7 <;> simp [h]
theorem isNow_eq (m r e : Int) : impl_isNow.f m r e = some (nowB m e) := by
  unfold impl_isNow.f nowB
  by_cases h : m = 7 <;> simp [h]
theorem lZero_eq (m r e : Int) : spec_l7Zero.f m r e = some (zeroB m r e) := rfl
theorem isSettable_eq (m : Int) : impl_isSettable.f m = some (m == 0 || memB m) := by
  unfold impl_isSettable.f
  rw [isMemory_eq]
  by_cases h : m = 0 <;> simp [h]
theorem lExt_eq (m : Int) : spec_l6Ext.f m = some (decide (5 ≤ m)) := rfl
theorem needsExt_eq (m : Int) : impl_needsExt.f m = some (decide (m = 5 ∨ m = 6 ∨ m = 7)) := by
  unfold impl_needsExt.f
  by_cases h : m = 5
  · simp [h]
  · by_cases h2 : m = 6
    · simp [h2]
    · by_cases h3 : m = 7 <;> simp [h, h2, h3]
theorem lGoodOperand_eq (k : Nat) (m r e : Int) : spec_GoodOperand.f (k + 1) m r e = some (goodEa m r e) := by
  unfold spec_GoodOperand.f goodEa
  simp only [l1In_eq, l6Word_eq, lExt_eq, Option.bind_some, spec_GoodOperand.j0, decide_eq_true_eq]
  by_cases h1 : 0 ≤ m ∧ m ≤ 7 <;> by_cases h2 : 0 ≤ r ∧ r ≤ 3 <;> by_cases h3 : 0 ≤ e ∧ e ≤ 65535 <;> by_cases h4 : 6 ≤ m <;> by_cases h5 : r = 0 <;> by_cases h6 : 5 ≤ m <;> simp [h1, h2, h3, h4, h5, h6, Int.not_lt.2, Int.not_le] <;> omega
theorem goodOperand_eq (m r e : Int) : impl_GoodOperand.f m r e = some (goodEa m r e) := by
  unfold impl_GoodOperand.f goodEa
  simp only [within_eq, isWord_eq, needsExt_eq, Option.bind_some, decide_eq_true_eq]
  by_cases h1 : 0 ≤ m ∧ m ≤ 7
  · have e1 : (m = 5 ∨ m = 6 ∨ m = 7) ↔ 5 ≤ m := by omega
    simp only [e1]
    by_cases h2 : 0 ≤ r ∧ r ≤ 3 <;> by_cases h3 : 0 ≤ e ∧ e ≤ 65535 <;> by_cases h4 : m < 6 <;> by_cases h5 : r = 0 <;> by_cases h6 : 5 ≤ m <;> by_cases h7 : e = 0 <;> simp [h1, h2, h3, h4, h5, h6, h7]
  · simp [h1]
/-- Whether an instruction is right by its Op. -/
def kindB (op s r m er e b : Int) : Bool :=
  if op = 1 ∨ op = 3 ∨ op = 4 ∨ op = 5 ∨ op = 6 ∨ op = 7 ∨ op = 8 then b == 0 && (s == 2 || m != 1)
  else if op = 2 then b == 0 && (m == 0 || memB m)
  else if op = 9 then s == 2 && b == 0
  else if op = 10 then s == 2 && (b == 0 && plainB m)
  else if op = 11 then r == 0 && (decide (b ≤ 3) && (m == 0 || memB m))
  else if op = 12 then m == 0
  else if op = 13 then s == 2 && (decide (r ≤ 1) && m == 7)
  else if op = 14 then s == 2 && (r == 0 && (decide (b ≤ 1) && plainB m))
  else if op = 15 then (if b = 3 then s == 2 && (r == 0 && nowB m e) else s == 2 && (decide (b ≤ 6) && (zeroB m er e && (decide (3 < b) || r == 0))))
  else if op = 16 ∨ op = 17 then s == 2 && (b == 0 && m != 1)
  else if op = 18 then s != 2 && (decide (b ≤ 1) && m == 0)
  else if op = 19 then s == 2 && ((b == 0 && (r == 0 && nowB m e)) || (b == 1 && zeroB m er e))
  else false
/-- Whether an instruction is good. -/
def goodIns (op s r m er e b : Int) : Bool :=
  decide (s = 1 ∨ s = 2) && decide (0 ≤ r ∧ r ≤ 3) && decide (0 ≤ b ∧ b ≤ 7) && goodEa m er e && !(m == 7 && (s == 1 && decide (255 < e))) && kindB op s r m er e b
theorem lIns_kind (k : Nat) (op s r m er e b : Int) : spec_GoodIns.j0 (k + 3) false op s r m er e b = some (kindB op s r m er e b) := by
  have hcases : (op = 1 ∨ op = 3 ∨ op = 4 ∨ op = 5 ∨ op = 6 ∨ op = 7 ∨ op = 8) ∨ op = 2 ∨ op = 9 ∨ op = 10 ∨ op = 11 ∨ op = 12 ∨ op = 13 ∨ op = 14 ∨ op = 15 ∨ op = 16 ∨ op = 17 ∨ op = 18 ∨ op = 19 ∨ (op < 1 ∨ 19 < op) := by omega
  simp only [spec_GoodIns.j0, spec_GoodIns.j1, spec_GoodIns.j2, lMemory_eq, lPlain_eq, lNow_eq, lZero_eq, Option.bind_some, Bool.false_eq_true, if_false]
  unfold kindB
  rcases hcases with (rfl | rfl | rfl | rfl | rfl | rfl | rfl) | rfl | rfl | rfl | rfl | rfl | rfl | rfl | rfl | rfl | rfl | rfl | rfl | h
  case inr.inr.inr.inr.inr.inr.inr.inr.inr.inr.inr.inr.inr => simp [show op ≠ 1 by omega, show op ≠ 2 by omega, show op ≠ 3 by omega, show op ≠ 4 by omega, show op ≠ 5 by omega, show op ≠ 6 by omega, show op ≠ 7 by omega, show op ≠ 8 by omega, show op ≠ 9 by omega, show op ≠ 10 by omega, show op ≠ 11 by omega, show op ≠ 12 by omega, show op ≠ 13 by omega, show op ≠ 14 by omega, show op ≠ 15 by omega, show op ≠ 16 by omega, show op ≠ 17 by omega, show op ≠ 18 by omega, show op ≠ 19 by omega]
  all_goals first
    | (simp; done)
    | grind
theorem lIns_true (k : Nat) (op s r m er e b : Int) : spec_GoodIns.j0 (k + 3) true op s r m er e b = some false := by simp [spec_GoodIns.j0]
theorem lGoodIns_eq (k : Nat) (op s r m er e b : Int) : spec_GoodIns.f (k + 3) op s r m er e b = some (goodIns op s r m er e b) := by
  unfold spec_GoodIns.f goodIns
  simp only [lSize_eq, l1In_eq, lGoodOperand_eq, Option.bind_some, decide_eq_true_eq, lIns_true, lIns_kind]
  have hm : (m == 7) = decide (m = 7) := rfl
  have hs : (s == 1) = decide (s = 1) := rfl
  by_cases h1 : s = 1 ∨ s = 2 <;> by_cases h2 : 0 ≤ r ∧ r ≤ 3 <;> cases h3 : goodEa m er e <;> by_cases h4 : 0 ≤ b ∧ b ≤ 7 <;> simp only [h1, h2, h4, if_true, if_false, decide_true, decide_false, Bool.true_and, Bool.false_and, Bool.and_false, Bool.false_eq_true, hm, hs, and_self]
  by_cases h5 : m = 7 <;> by_cases h6 : s = 1 <;> by_cases h7 : e > 255 <;> simp [h5, h6, h7, lIns_true, lIns_kind]
theorem iKind_eq (k : Nat) (op s r m er e b : Int) (hs : s = 1 ∨ s = 2) (hb : 0 ≤ b) : impl_isKind.f (k + 3) op s r m er e b = some (kindB op s r m er e b) := by
  have hcases : (op = 1 ∨ op = 3 ∨ op = 4 ∨ op = 5 ∨ op = 6 ∨ op = 7 ∨ op = 8) ∨ op = 2 ∨ op = 9 ∨ op = 10 ∨ op = 11 ∨ op = 12 ∨ op = 13 ∨ op = 14 ∨ op = 15 ∨ op = 16 ∨ op = 17 ∨ op = 18 ∨ op = 19 ∨ (op < 1 ∨ 19 < op) := by omega
  simp only [impl_isKind.f, impl_isKind.j0, impl_isKind.j1, impl_isFlow.f, impl_isFlow.j0, isSettable_eq, isPlain_eq, isNow_eq, Option.bind_some]
  unfold kindB zeroB
  rcases hcases with (rfl | rfl | rfl | rfl | rfl | rfl | rfl) | rfl | rfl | rfl | rfl | rfl | rfl | rfl | rfl | rfl | rfl | rfl | rfl | h
  case inr.inr.inr.inr.inr.inr.inr.inr.inr.inr.inr.inr.inr => simp [show op ≠ 1 by omega, show op ≠ 2 by omega, show op ≠ 3 by omega, show op ≠ 4 by omega, show op ≠ 5 by omega, show op ≠ 6 by omega, show op ≠ 7 by omega, show op ≠ 8 by omega, show op ≠ 9 by omega, show op ≠ 10 by omega, show op ≠ 11 by omega, show op ≠ 12 by omega, show op ≠ 13 by omega, show op ≠ 14 by omega, show op ≠ 15 by omega, show op ≠ 16 by omega, show op ≠ 17 by omega, show op ≠ 18 by omega, show op ≠ 19 by omega]
  case inr.inr.inr.inr.inr.inr.inr.inr.inl =>
    by_cases h3 : b = 3
    · subst h3
      rcases hs with rfl | rfl <;> by_cases hr : r = 0 <;> simp [hr]
    · by_cases h6 : b ≤ 6
      · have e6 : ¬ b > 6 := by omega
        by_cases hl : b < 3
        · have e3 : ¬ 3 < b := by omega
          rcases hs with rfl | rfl <;> by_cases hr : r = 0 <;> simp [h3, h6, e6, hl, e3, hr]
        · have e3 : 3 < b := by omega
          rcases hs with rfl | rfl <;> by_cases hr : r = 0 <;> simp [h3, h6, e6, hl, e3, hr]
      · have e6 : b > 6 := by omega
        rcases hs with rfl | rfl <;> simp [h3, h6, e6]
  all_goals first
    | (simp; done)
    | grind
theorem iGoodIns_eq (k : Nat) (op s r m er e b : Int) : impl_GoodIns.f (k + 3) op s r m er e b = some (goodIns op s r m er e b) := by
  unfold impl_GoodIns.f goodIns
  simp only [isSize_eq, within_eq, goodOperand_eq, Option.bind_some, decide_eq_true_eq]
  by_cases h1 : s = 1 ∨ s = 2
  · by_cases h4 : 0 ≤ b ∧ b ≤ 7
    · rw [iKind_eq k op s r m er e b h1 h4.1]
      rcases h1 with rfl | rfl <;> cases h3 : goodEa m er e <;> by_cases h2 : 0 ≤ r ∧ r ≤ 3 <;> by_cases h5 : m = 7 <;> by_cases h7 : e > 255 <;> simp [h2, h4, h5, h7]
    · simp [h1, h4]
  · simp [h1]
theorem good_parts {op s r m er e b : Int} (h : goodIns op s r m er e b = true) : (s = 1 ∨ s = 2) ∧ (0 ≤ r ∧ r ≤ 3) ∧ (0 ≤ b ∧ b ≤ 7) ∧ goodEa m er e = true ∧ kindB op s r m er e b = true := by
  unfold goodIns at h
  simp only [Bool.and_eq_true, decide_eq_true_eq] at h
  exact ⟨h.1.1.1.1.1, h.1.1.1.1.2, h.1.1.1.2, h.1.1.2, h.2⟩
theorem good_11 {op s r m er e b : Int} (h : goodIns op s r m er e b = true) (ho : op = 11) : b ≤ 3 := by
  have := (good_parts h).2.2.2.2
  subst ho
  simp [kindB] at this
  omega
theorem good_13 {op s r m er e b : Int} (h : goodIns op s r m er e b = true) (ho : op = 13) : r ≤ 1 := by
  have := (good_parts h).2.2.2.2
  subst ho
  simp [kindB] at this
  omega
theorem good_15 {op s r m er e b : Int} (h : goodIns op s r m er e b = true) (ho : op = 15) : b ≤ 6 := by
  have := (good_parts h).2.2.2.2
  subst ho
  simp only [kindB] at this
  by_cases h3 : b = 3
  · omega
  · simp [h3] at this
    omega
def mayWriteB (op m b : Int) : Bool := if op = 2 then memB m else if op = 11 then decide (b < 3) && memB m else if op = 14 then b == 1 else false
theorem or_15_16 : bits .or .i64 15 16 = 31 := by decide +kernel
theorem or_15_0 : bits .or .i64 15 0 = 15 := by decide +kernel
theorem or_31_0 : bits .or .i64 31 0 = 31 := by decide +kernel
theorem or_0_15 : bits .or .i64 0 15 = 15 := by decide +kernel
theorem or_0_0 : bits .or .i64 0 0 = 0 := by decide +kernel
theorem or_31_15 : bits .or .i64 31 15 = 31 := by decide +kernel
theorem andNot_31_4 : bits .andNot .i64 31 4 = 27 := by decide +kernel
theorem andNot_31_16 : bits .andNot .i64 31 16 = 15 := by decide +kernel
def setsI (op b : Int) : Int :=
  if op = 1 ∨ op = 2 ∨ op = 5 ∨ op = 6 ∨ op = 7 ∨ op = 8 ∨ op = 16 ∨ op = 17 then 15 else if op = 3 ∨ op = 4 then 31 else if op = 11 then (if b = 1 then 31 else 15)
  else if op = 12 then (if b = 4 ∨ b = 5 then 15 else 31) else if op = 18 then 27 else if op = 15 then (if b = 1 ∨ b = 3 then 31 else if 5 ≤ b then 15 else 0) else if op = 19 then (if b = 0 then 31 else 0) else 0
theorem lFlag_eq (c : Bool) (f : Int) : spec_l1Flag.f c f = some (if c then f else 0) := by
  unfold spec_l1Flag.f
  cases c <;> rfl
theorem lSets_eq (k : Nat) (op s r m er e b : Int) : spec_l14Sets.f (k + 2) op s r m er e b = some (setsI op b) := by
  unfold spec_l14Sets.f setsI
  simp only [spec_l14Sets.j0, spec_l14Sets.j1, lFlag_eq, Option.bind_some]
  have hop : (op = 1 ∨ op = 2 ∨ op = 5 ∨ op = 6 ∨ op = 7 ∨ op = 8 ∨ op = 16 ∨ op = 17) ∨ (op = 3 ∨ op = 4) ∨ op = 11 ∨ op = 12 ∨ op = 18 ∨ op = 15 ∨ op = 19 ∨ (op ≠ 1 ∧ op ≠ 2 ∧ op ≠ 3 ∧ op ≠ 4 ∧ op ≠ 5 ∧ op ≠ 6 ∧ op ≠ 7 ∧ op ≠ 8 ∧ op ≠ 11 ∧ op ≠ 12 ∧ op ≠ 15 ∧ op ≠ 16 ∧ op ≠ 17 ∧ op ≠ 18 ∧ op ≠ 19) := by omega
  have hb : b = 0 ∨ b = 1 ∨ b = 3 ∨ b = 4 ∨ b = 5 ∨ b = 6 ∨ 7 ≤ b ∨ (b ≠ 0 ∧ b ≠ 1 ∧ b ≠ 3 ∧ b < 4) := by omega
  rcases hop with (rfl | rfl | rfl | rfl | rfl | rfl | rfl | rfl) | (rfl | rfl) | rfl | rfl | rfl | rfl | rfl | h
  case inr.inr.inr.inr.inr.inr.inr => simp [h]
  all_goals try (simp; done)
  all_goals
    rcases hb with rfl | rfl | rfl | rfl | rfl | rfl | hb | ⟨hb0, hb1, hb3, hb4⟩
    all_goals first
      | (simp [or_15_16, or_15_0, or_31_0, or_0_15, or_0_0]; done)
      | (simp [or_15_16, or_15_0, or_31_0, or_0_15, or_0_0, show ¬ b = 0 by omega, show ¬ b = 1 by omega, show ¬ b = 3 by omega, show ¬ b = 4 by omega, show ¬ b = 5 by omega, show ¬ b = 6 by omega, show 5 ≤ b by omega]; done)
      | (simp [or_15_16, or_15_0, or_31_0, or_0_15, or_0_0, show ¬ b = 0 by omega, show ¬ b = 1 by omega, show ¬ b = 3 by omega, show ¬ b = 4 by omega, show ¬ b = 5 by omega, show ¬ b = 6 by omega, show ¬ 5 ≤ b by omega]; done)
theorem iSets_eq (k : Nat) {op b : Int} (s r m er e : Int) (h15 : op = 15 → b ≤ 6) : impl_setsOf.f (k + 3) op s r m er e b = some (setsI op b) := by
  unfold impl_setsOf.f setsI
  simp only [impl_setsOf.j0, impl_setsOf.j1, impl_setsOf.j2, andNot_31_4]
  have hop : (op = 1 ∨ op = 2 ∨ op = 5 ∨ op = 6 ∨ op = 7 ∨ op = 8 ∨ op = 16 ∨ op = 17) ∨ (op = 3 ∨ op = 4) ∨ op = 11 ∨ op = 12 ∨ op = 18 ∨ op = 15 ∨ op = 19 ∨ (op ≠ 1 ∧ op ≠ 2 ∧ op ≠ 3 ∧ op ≠ 4 ∧ op ≠ 5 ∧ op ≠ 6 ∧ op ≠ 7 ∧ op ≠ 8 ∧ op ≠ 11 ∧ op ≠ 12 ∧ op ≠ 15 ∧ op ≠ 16 ∧ op ≠ 17 ∧ op ≠ 18 ∧ op ≠ 19) := by omega
  have hb : b = 0 ∨ b = 1 ∨ b = 3 ∨ b = 4 ∨ b = 5 ∨ b = 6 ∨ 7 ≤ b ∨ (b ≠ 0 ∧ b ≠ 1 ∧ b ≠ 3 ∧ b < 4) := by omega
  rcases hop with (rfl | rfl | rfl | rfl | rfl | rfl | rfl | rfl) | (rfl | rfl) | rfl | rfl | rfl | rfl | rfl | h
  case inr.inr.inr.inr.inr.inr.inr => simp [h]
  all_goals try (simp; done)
  all_goals
    rcases hb with rfl | rfl | rfl | rfl | rfl | rfl | hb | ⟨hb0, hb1, hb3, hb4⟩
    all_goals first
      | (simp [or_15_16, or_15_0, or_31_0, or_0_15, or_0_0]; done)
      | (simp [or_15_16, or_15_0, or_31_0, or_0_15, or_0_0, show ¬ b = 0 by omega, show ¬ b = 1 by omega, show ¬ b = 3 by omega, show ¬ b = 4 by omega, show ¬ b = 5 by omega, show ¬ b = 6 by omega, show 5 ≤ b by omega]; done)
      | (exfalso; have := h15 rfl; omega)
      | (simp [or_15_16, or_15_0, or_31_0, or_0_15, or_0_0, show ¬ b = 0 by omega, show ¬ b = 1 by omega, show ¬ b = 3 by omega, show ¬ b = 4 by omega, show ¬ b = 5 by omega, show ¬ b = 6 by omega, show ¬ 5 ≤ b by omega]; done)
theorem FnExactSetsOf : ∀ (a0_0 : Int) (a0_1 : Int) (a0_2 : Int) (a0_3 : Int) (a0_4 : Int) (a0_5 : Int) (a0_6 : Int), (Lit.int .i64 a0_0).wf = true → (Lit.int .i64 a0_1).wf = true → (Lit.int .i64 a0_2).wf = true → (Lit.int .i64 a0_3).wf = true → (Lit.int .i64 a0_4).wf = true → (Lit.int .i64 a0_5).wf = true → (Lit.int .i64 a0_6).wf = true → ∃ k, laws_FnExactSetsOf.f k a0_0 a0_1 a0_2 a0_3 a0_4 a0_5 a0_6 = some true := by
  intro op s r m er e b _ _ _ _ _ _ _
  refine ⟨5, ?_⟩
  unfold laws_FnExactSetsOf.f laws_toIns.f laws_toOperand.f spec_SetsOf.f impl_SetsOf.f
  simp only [Option.bind_some, lGoodIns_eq 2, iGoodIns_eq 2, lSets_eq 3]
  cases hg : goodIns op s r m er e b with
  | false => simp
  | true =>
    rw [iSets_eq 2 s r m er e (good_15 hg)]
    simp

end Go.Proofs.Ytopmacbjbjaekaa.Pure
