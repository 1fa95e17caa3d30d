/- The law FnExactPutUnit as a plain function answers true for all arguments (numbers of 64 bits, lists of at most 2^63 - 1 elements). No other condition. -/
import Derived.Test.YtjnifnhpnccpcaaGreatJx38
import Derived.Test.YtjnifnhpnccpcaaGreatMath
set_option linter.unusedVariables false
set_option linter.unusedSimpArgs false
namespace Go.Proofs.YtjnifnhpnccpcaaGreat.Pure
open Go.RowKit Go.Proofs.YtjnifnhpnccpcaaGreat.J Go.Proofs.YtjnifnhpnccpcaaGreatW.PrintWords Go.Proofs.YtjnifnhpnccpcaaGreatW.PrintLast Go.Proofs.YtjnifnhpnccpcaaGreat.Math
theorem l1In_eq (a b c : Int) : spec_l1In.f a b c = some (decide (b ≤ a ∧ a ≤ c)):=by
  unfold spec_l1In.f
  by_cases h : b ≤ a <;> simp [h]
theorem within_eq (a b c : Int) : impl_within.f a b c = some (decide (b ≤ a ∧ a ≤ c)):=by
  unfold impl_within.f
  by_cases h : b ≤ a <;> simp [h]
theorem l6Word_eq (a : Int) : spec_l6Word.f a = some (decide (0 ≤ a ∧ a ≤ 65535)):=by
  unfold spec_l6Word.f
  rw [l1In_eq]
  rfl
theorem isWord_eq (a : Int) : impl_isWord.f a = some (decide (0 ≤ a ∧ a ≤ 65535)):=by
  unfold impl_isWord.f
  rw [within_eq]
  rfl
theorem lSize_eq (s : Int) : spec_l1Size.f s = some (decide (s = 1 ∨ s = 2)):=by
  unfold spec_l1Size.f
  by_cases h : s = 1
  · simp [h]
  · by_cases h2 : s = 2 <;> simp [h,h2]
theorem isSize_eq (s : Int) : impl_isSize.f s = some (decide (s = 1 ∨ s = 2)):=by
  unfold impl_isSize.f
  by_cases h : s = 1
  · simp [h]
  · by_cases h2 : s = 2 <;> simp [h,h2]
def memB (m : Int) : Bool:=decide (2 ≤ m ∧ m ≤ 6)
def plainB (m : Int) : Bool:=m == 2 || (m == 5 || m == 6)
def nowB (m e : Int) : Bool:=m == 7 && decide (e ≤ 1023)
def zeroB (m r e : Int) : Bool:=m == 0 && (r == 0 && (e == 0))
def goodEa (m r e : Int) : Bool:=decide (0 ≤ m ∧ m ≤ 7) && decide (0 ≤ r ∧ r ≤ 3) && decide (0 ≤ e ∧ e ≤ 65535) && (decide (5 ≤ m) || e == 0) && (decide (m < 6) || r == 0)
theorem lMemory_eq (m : Int) : spec_l7Memory.f m = some (memB m):=by
  unfold spec_l7Memory.f
  rw [l1In_eq]
  rfl
theorem isMemory_eq (m : Int) : impl_isMemory.f m = some (memB m):=by
  unfold impl_isMemory.f
  rw [within_eq]
  rfl
theorem lPlain_eq (m : Int) : spec_l7Plain.f m = some (plainB m):=by
  unfold spec_l7Plain.f plainB
  by_cases h : m = 2
  · simp [h]
  · have e1 : (m == 2) = false:=beq_eq_false_iff_ne.2 h
    by_cases h2 : m = 5
    · simp [h2]
    · have e2 : (m == 5) = false:=beq_eq_false_iff_ne.2 h2
      simp [h,h2,e1,e2]
theorem isPlain_eq (m : Int) : impl_isPlain.f m = some (plainB m):=by
  unfold impl_isPlain.f plainB
  by_cases h : m = 2
  · simp [h]
  · have e1 : (m == 2) = false:=beq_eq_false_iff_ne.2 h
    by_cases h2 : m = 5
    · simp [h2]
    · have e2 : (m == 5) = false:=beq_eq_false_iff_ne.2 h2
      simp [h,h2,e1,e2]
theorem lNow_eq (m r e : Int) : spec_l7Now.f m r e = some (nowB m e):=by
  unfold spec_l7Now.f nowB
  by_cases h : m = 7 <;> simp [h]
theorem isNow_eq (m r e : Int) : impl_isNow.f m r e = some (nowB m e):=by
  unfold impl_isNow.f nowB
  by_cases h : m = 7 <;> simp [h]
theorem lZero_eq (m r e : Int) : spec_l7Zero.f m r e = some (zeroB m r e):=rfl
theorem isSettable_eq (m : Int) : impl_isSettable.f m = some (m == 0 || memB m):=by
  unfold impl_isSettable.f
  rw [isMemory_eq]
  by_cases h : m = 0 <;> simp [h]
theorem lExt_eq (m : Int) : spec_l6Ext.f m = some (decide (5 ≤ m)):=rfl
theorem needsExt_eq (m : Int) : impl_needsExt.f m = some (decide (m = 5 ∨ m = 6 ∨ m = 7)):=by
  unfold impl_needsExt.f
  by_cases h : m = 5
  · simp [h]
  · by_cases h2 : m = 6
    · simp [h2]
    · by_cases h3 : m = 7 <;> simp [h,h2,h3]
theorem lGoodOperand_eq (k : Nat) (m r e : Int) : spec_GoodOperand.f (k + 1) m r e = some (goodEa m r e):=by
  unfold spec_GoodOperand.f goodEa
  simp only [l1In_eq,l6Word_eq,lExt_eq,Option.bind_some,spec_GoodOperand.j0,decide_eq_true_eq]
  by_cases h1 : 0 ≤ m ∧ m ≤ 7 <;> by_cases h2 : 0 ≤ r ∧ r ≤ 3 <;> by_cases h3 : 0 ≤ e ∧ e ≤ 65535 <;> by_cases h4 : 6 ≤ m <;> by_cases h5 : r = 0 <;> by_cases h6 : 5 ≤ m <;> simp [h1,h2,h3,h4,h5,h6,Int.not_lt.2,Int.not_le] <;> omega
theorem goodOperand_eq (m r e : Int) : impl_GoodOperand.f m r e = some (goodEa m r e):=by
  unfold impl_GoodOperand.f goodEa
  simp only [within_eq,isWord_eq,needsExt_eq,Option.bind_some,decide_eq_true_eq]
  by_cases h1 : 0 ≤ m ∧ m ≤ 7
  · have e1 : (m = 5 ∨ m = 6 ∨ m = 7) ↔ 5 ≤ m:=by omega
    simp only [e1]
    by_cases h2 : 0 ≤ r ∧ r ≤ 3 <;> by_cases h3 : 0 ≤ e ∧ e ≤ 65535 <;> by_cases h4 : m < 6 <;> by_cases h5 : r = 0 <;> by_cases h6 : 5 ≤ m <;> by_cases h7 : e = 0 <;> simp [h1,h2,h3,h4,h5,h6,h7]
  · simp [h1]
def kindB (op s r m er e b : Int) : Bool :=
  if op = 1 ∨ op = 3 ∨ op = 4 ∨ op = 5 ∨ op = 6 ∨ op = 7 ∨ op = 8 then b == 0 && (s == 2 || m != 1)
  else if op = 2 then b == 0 && (m == 0 || memB m)
  else if op = 9 then s == 2 && b == 0
  else if op = 10 then s == 2 && (b == 0 && plainB m)
  else if op = 11 then r == 0 && (decide (b ≤ 3) && (m == 0 || memB m))
  else if op = 12 then m == 0
  else if op = 13 then s == 2 && (decide (r ≤ 1) && m == 7)
  else if op = 14 then s == 2 && (r == 0 && (decide (b ≤ 1) && plainB m))
  else if op = 15 then (if b = 3 then s == 2 && (r == 0 && nowB m e) else s == 2 && (decide (b ≤ 6) && (zeroB m er e && (decide (3 < b) || r == 0))))
  else if op = 16 ∨ op = 17 then s == 2 && (b == 0 && m != 1)
  else if op = 18 then s != 2 && (decide (b ≤ 1) && m == 0)
  else if op = 19 then s == 2 && ((b == 0 && (r == 0 && nowB m e)) || (b == 1 && zeroB m er e))
  else false
def goodIns (op s r m er e b : Int) : Bool :=
  decide (s = 1 ∨ s = 2) && decide (0 ≤ r ∧ r ≤ 3) && decide (0 ≤ b ∧ b ≤ 7) && goodEa m er e && !(m == 7 && (s == 1 && decide (255 < e))) && kindB op s r m er e b
theorem lIns_kind (k : Nat) (op s r m er e b : Int) : spec_GoodIns.j0 (k + 3) false op s r m er e b = some (kindB op s r m er e b):=by
  have hcases : (op = 1 ∨ op = 3 ∨ op = 4 ∨ op = 5 ∨ op = 6 ∨ op = 7 ∨ op = 8) ∨ op = 2 ∨ op = 9 ∨ op = 10 ∨ op = 11 ∨ op = 12 ∨ op = 13 ∨ op = 14 ∨ op = 15 ∨ op = 16 ∨ op = 17 ∨ op = 18 ∨ op = 19 ∨ (op < 1 ∨ 19 < op):=by omega
  simp only [spec_GoodIns.j0,spec_GoodIns.j1,spec_GoodIns.j2,lMemory_eq,lPlain_eq,lNow_eq,lZero_eq,Option.bind_some,Bool.false_eq_true,if_false]
  unfold kindB
  rcases hcases with (rfl | rfl | rfl | rfl | rfl | rfl | rfl) | rfl | rfl | rfl | rfl | rfl | rfl | rfl | rfl | rfl | rfl | rfl | rfl | h
  case inr.inr.inr.inr.inr.inr.inr.inr.inr.inr.inr.inr.inr => simp [show op ≠ 1 by omega,show op ≠ 2 by omega,show op ≠ 3 by omega,show op ≠ 4 by omega,show op ≠ 5 by omega,show op ≠ 6 by omega,show op ≠ 7 by omega,show op ≠ 8 by omega,show op ≠ 9 by omega,show op ≠ 10 by omega,show op ≠ 11 by omega,show op ≠ 12 by omega,show op ≠ 13 by omega,show op ≠ 14 by omega,show op ≠ 15 by omega,show op ≠ 16 by omega,show op ≠ 17 by omega,show op ≠ 18 by omega,show op ≠ 19 by omega]
  all_goals first
    | (simp;done)
    | grind
theorem lIns_true (k : Nat) (op s r m er e b : Int) : spec_GoodIns.j0 (k + 3) true op s r m er e b = some false:=by simp [spec_GoodIns.j0]
theorem lGoodIns_eq (k : Nat) (op s r m er e b : Int) : spec_GoodIns.f (k + 3) op s r m er e b = some (goodIns op s r m er e b):=by
  unfold spec_GoodIns.f goodIns
  simp only [lSize_eq,l1In_eq,lGoodOperand_eq,Option.bind_some,decide_eq_true_eq,lIns_true,lIns_kind]
  have hm : (m == 7) = decide (m = 7):=rfl
  have hs : (s == 1) = decide (s = 1):=rfl
  by_cases h1 : s = 1 ∨ s = 2 <;> by_cases h2 : 0 ≤ r ∧ r ≤ 3 <;> cases h3 : goodEa m er e <;> by_cases h4 : 0 ≤ b ∧ b ≤ 7 <;> simp only [h1,h2,h4,if_true,if_false,decide_true,decide_false,Bool.true_and,Bool.false_and,Bool.and_false,Bool.false_eq_true,hm,hs,and_self]
  by_cases h5 : m = 7 <;> by_cases h6 : s = 1 <;> by_cases h7 : e > 255 <;> simp [h5,h6,h7,lIns_true,lIns_kind]
theorem iKind_eq (k : Nat) (op s r m er e b : Int) (hs : s = 1 ∨ s = 2) (hb : 0 ≤ b) : impl_isKind.f (k + 3) op s r m er e b = some (kindB op s r m er e b):=by
  have hcases : (op = 1 ∨ op = 3 ∨ op = 4 ∨ op = 5 ∨ op = 6 ∨ op = 7 ∨ op = 8) ∨ op = 2 ∨ op = 9 ∨ op = 10 ∨ op = 11 ∨ op = 12 ∨ op = 13 ∨ op = 14 ∨ op = 15 ∨ op = 16 ∨ op = 17 ∨ op = 18 ∨ op = 19 ∨ (op < 1 ∨ 19 < op):=by omega
  simp only [impl_isKind.f,impl_isKind.j0,impl_isKind.j1,impl_isFlow.f,impl_isFlow.j0,isSettable_eq,isPlain_eq,isNow_eq,Option.bind_some]
  unfold kindB zeroB
  rcases hcases with (rfl | rfl | rfl | rfl | rfl | rfl | rfl) | rfl | rfl | rfl | rfl | rfl | rfl | rfl | rfl | rfl | rfl | rfl | rfl | h
  case inr.inr.inr.inr.inr.inr.inr.inr.inr.inr.inr.inr.inr => simp [show op ≠ 1 by omega,show op ≠ 2 by omega,show op ≠ 3 by omega,show op ≠ 4 by omega,show op ≠ 5 by omega,show op ≠ 6 by omega,show op ≠ 7 by omega,show op ≠ 8 by omega,show op ≠ 9 by omega,show op ≠ 10 by omega,show op ≠ 11 by omega,show op ≠ 12 by omega,show op ≠ 13 by omega,show op ≠ 14 by omega,show op ≠ 15 by omega,show op ≠ 16 by omega,show op ≠ 17 by omega,show op ≠ 18 by omega,show op ≠ 19 by omega]
  case inr.inr.inr.inr.inr.inr.inr.inr.inl =>
    by_cases h3 : b = 3
    · subst h3
      rcases hs with rfl | rfl <;> by_cases hr : r = 0 <;> simp [hr]
    · by_cases h6 : b ≤ 6
      · have e6 : ¬ b > 6:=by omega
        by_cases hl : b < 3
        · have e3 : ¬ 3 < b:=by omega
          rcases hs with rfl | rfl <;> by_cases hr : r = 0 <;> simp [h3,h6,e6,hl,e3,hr]
        · have e3 : 3 < b:=by omega
          rcases hs with rfl | rfl <;> by_cases hr : r = 0 <;> simp [h3,h6,e6,hl,e3,hr]
      · have e6 : b > 6:=by omega
        rcases hs with rfl | rfl <;> simp [h3,h6,e6]
  all_goals first
    | (simp;done)
    | grind
theorem iGoodIns_eq (k : Nat) (op s r m er e b : Int) : impl_GoodIns.f (k + 3) op s r m er e b = some (goodIns op s r m er e b):=by
  unfold impl_GoodIns.f goodIns
  simp only [isSize_eq,within_eq,goodOperand_eq,Option.bind_some,decide_eq_true_eq]
  by_cases h1 : s = 1 ∨ s = 2
  · by_cases h4 : 0 ≤ b ∧ b ≤ 7
    · rw [iKind_eq k op s r m er e b h1 h4.1]
      rcases h1 with rfl | rfl <;> cases h3 : goodEa m er e <;> by_cases h2 : 0 ≤ r ∧ r ≤ 3 <;> by_cases h5 : m = 7 <;> by_cases h7 : e > 255 <;> simp [h2,h4,h5,h7]
    · simp [h1,h4]
  · simp [h1]
theorem good_parts {op s r m er e b : Int} (h : goodIns op s r m er e b = true) : (s = 1 ∨ s = 2) ∧ (0 ≤ r ∧ r ≤ 3) ∧ (0 ≤ b ∧ b ≤ 7) ∧ goodEa m er e = true ∧ kindB op s r m er e b = true:=by
  unfold goodIns at h
  simp only [Bool.and_eq_true,decide_eq_true_eq] at h
  exact ⟨h.1.1.1.1.1,h.1.1.1.1.2,h.1.1.1.2,h.1.1.2,h.2⟩
theorem good_11 {op s r m er e b : Int} (h : goodIns op s r m er e b = true) (ho : op = 11) : b ≤ 3:=by
  have:=(good_parts h).2.2.2.2
  subst ho
  simp [kindB] at this
  omega
theorem good_13 {op s r m er e b : Int} (h : goodIns op s r m er e b = true) (ho : op = 13) : r ≤ 1:=by
  have:=(good_parts h).2.2.2.2
  subst ho
  simp [kindB] at this
  omega
theorem good_15 {op s r m er e b : Int} (h : goodIns op s r m er e b = true) (ho : op = 15) : b ≤ 6:=by
  have:=(good_parts h).2.2.2.2
  subst ho
  simp only [kindB] at this
  by_cases h3 : b = 3
  · omega
  · simp [h3] at this
    omega
def mayWriteB (op m b : Int) : Bool:=if op = 2 then memB m else if op = 11 then decide (b < 3) && memB m else if op = 14 then b == 1 else false
def straightB (op b : Int) : Bool:=if op = 13 ∨ op = 14 then false else if op = 15 then b == 2 || (b == 5 || b == 6) else if op = 19 then b != 0 else true
theorem lStraight_eq (k : Nat) (op s r m er e b : Int) : spec_l14Straight.f (k + 1) op s r m er e b = some (straightB op b):=by
  unfold spec_l14Straight.f straightB
  simp only [spec_l14Straight.j0]
  grind
theorem iStraight_eq (k : Nat) (op s r m er e b : Int) : impl_isStraight.f (k + 1) op s r m er e b = some (straightB op b):=by
  unfold impl_isStraight.f straightB
  simp only [impl_isStraight.j0]
  grind
theorem or_15_16 : bits .or .i64 15 16 = 31:=by decide +kernel
theorem or_15_0 : bits .or .i64 15 0 = 15:=by decide +kernel
theorem or_31_0 : bits .or .i64 31 0 = 31:=by decide +kernel
theorem or_0_15 : bits .or .i64 0 15 = 15:=by decide +kernel
theorem or_0_0 : bits .or .i64 0 0 = 0:=by decide +kernel
theorem or_31_15 : bits .or .i64 31 15 = 31:=by decide +kernel
theorem andNot_31_4 : bits .andNot .i64 31 4 = 27:=by decide +kernel
theorem andNot_31_16 : bits .andNot .i64 31 16 = 15:=by decide +kernel
def setsI (op b : Int) : Int :=
  if op = 1 ∨ op = 2 ∨ op = 5 ∨ op = 6 ∨ op = 7 ∨ op = 8 ∨ op = 16 ∨ op = 17 then 15 else if op = 3 ∨ op = 4 then 31 else if op = 11 then (if b = 1 then 31 else 15)
  else if op = 12 then (if b = 4 ∨ b = 5 then 15 else 31) else if op = 18 then 27 else if op = 15 then (if b = 1 ∨ b = 3 then 31 else if 5 ≤ b then 15 else 0) else if op = 19 then (if b = 0 then 31 else 0) else 0
theorem lFlag_eq (c : Bool) (f : Int) : spec_l1Flag.f c f = some (if c then f else 0):=by
  unfold spec_l1Flag.f
  cases c <;> rfl
theorem lSets_eq (k : Nat) (op s r m er e b : Int) : spec_l14Sets.f (k + 2) op s r m er e b = some (setsI op b):=by
  unfold spec_l14Sets.f setsI
  simp only [spec_l14Sets.j0,spec_l14Sets.j1,lFlag_eq,Option.bind_some]
  have hop : (op = 1 ∨ op = 2 ∨ op = 5 ∨ op = 6 ∨ op = 7 ∨ op = 8 ∨ op = 16 ∨ op = 17) ∨ (op = 3 ∨ op = 4) ∨ op = 11 ∨ op = 12 ∨ op = 18 ∨ op = 15 ∨ op = 19 ∨ (op ≠ 1 ∧ op ≠ 2 ∧ op ≠ 3 ∧ op ≠ 4 ∧ op ≠ 5 ∧ op ≠ 6 ∧ op ≠ 7 ∧ op ≠ 8 ∧ op ≠ 11 ∧ op ≠ 12 ∧ op ≠ 15 ∧ op ≠ 16 ∧ op ≠ 17 ∧ op ≠ 18 ∧ op ≠ 19):=by omega
  have hb : b = 0 ∨ b = 1 ∨ b = 3 ∨ b = 4 ∨ b = 5 ∨ b = 6 ∨ 7 ≤ b ∨ (b ≠ 0 ∧ b ≠ 1 ∧ b ≠ 3 ∧ b < 4):=by omega
  rcases hop with (rfl | rfl | rfl | rfl | rfl | rfl | rfl | rfl) | (rfl | rfl) | rfl | rfl | rfl | rfl | rfl | h
  case inr.inr.inr.inr.inr.inr.inr => simp [h]
  all_goals try (simp;done)
  all_goals
    rcases hb with rfl | rfl | rfl | rfl | rfl | rfl | hb | ⟨hb0,hb1,hb3,hb4⟩
    all_goals first
      | (simp [or_15_16,or_15_0,or_31_0,or_0_15,or_0_0];done)
      | (simp [or_15_16,or_15_0,or_31_0,or_0_15,or_0_0,show ¬ b = 0 by omega,show ¬ b = 1 by omega,show ¬ b = 3 by omega,show ¬ b = 4 by omega,show ¬ b = 5 by omega,show ¬ b = 6 by omega,show 5 ≤ b by omega];done)
      | (simp [or_15_16,or_15_0,or_31_0,or_0_15,or_0_0,show ¬ b = 0 by omega,show ¬ b = 1 by omega,show ¬ b = 3 by omega,show ¬ b = 4 by omega,show ¬ b = 5 by omega,show ¬ b = 6 by omega,show ¬ 5 ≤ b by omega];done)
theorem iSets_eq (k : Nat) {op b : Int} (s r m er e : Int) (h15 : op = 15 → b ≤ 6) : impl_setsOf.f (k + 3) op s r m er e b = some (setsI op b):=by
  unfold impl_setsOf.f setsI
  simp only [impl_setsOf.j0,impl_setsOf.j1,impl_setsOf.j2,andNot_31_4]
  have hop : (op = 1 ∨ op = 2 ∨ op = 5 ∨ op = 6 ∨ op = 7 ∨ op = 8 ∨ op = 16 ∨ op = 17) ∨ (op = 3 ∨ op = 4) ∨ op = 11 ∨ op = 12 ∨ op = 18 ∨ op = 15 ∨ op = 19 ∨ (op ≠ 1 ∧ op ≠ 2 ∧ op ≠ 3 ∧ op ≠ 4 ∧ op ≠ 5 ∧ op ≠ 6 ∧ op ≠ 7 ∧ op ≠ 8 ∧ op ≠ 11 ∧ op ≠ 12 ∧ op ≠ 15 ∧ op ≠ 16 ∧ op ≠ 17 ∧ op ≠ 18 ∧ op ≠ 19):=by omega
  have hb : b = 0 ∨ b = 1 ∨ b = 3 ∨ b = 4 ∨ b = 5 ∨ b = 6 ∨ 7 ≤ b ∨ (b ≠ 0 ∧ b ≠ 1 ∧ b ≠ 3 ∧ b < 4):=by omega
  rcases hop with (rfl | rfl | rfl | rfl | rfl | rfl | rfl | rfl) | (rfl | rfl) | rfl | rfl | rfl | rfl | rfl | h
  case inr.inr.inr.inr.inr.inr.inr => simp [h]
  all_goals try (simp;done)
  all_goals
    rcases hb with rfl | rfl | rfl | rfl | rfl | rfl | hb | ⟨hb0,hb1,hb3,hb4⟩
    all_goals first
      | (simp [or_15_16,or_15_0,or_31_0,or_0_15,or_0_0];done)
      | (simp [or_15_16,or_15_0,or_31_0,or_0_15,or_0_0,show ¬ b = 0 by omega,show ¬ b = 1 by omega,show ¬ b = 3 by omega,show ¬ b = 4 by omega,show ¬ b = 5 by omega,show ¬ b = 6 by omega,show 5 ≤ b by omega];done)
      | (exfalso;have:=h15 rfl;omega)
      | (simp [or_15_16,or_15_0,or_31_0,or_0_15,or_0_0,show ¬ b = 0 by omega,show ¬ b = 1 by omega,show ¬ b = 3 by omega,show ¬ b = 4 by omega,show ¬ b = 5 by omega,show ¬ b = 6 by omega,show ¬ 5 ≤ b by omega];done)
theorem needs_all : ∀ c : Fin 16,spec_l8Needs.f (c.val : Int) = impl_needsOf.f (c.val : Int) ∧ (spec_l8Needs.f (c.val : Int)).isSome = true:=by decide +kernel
theorem needs_same {c : Int} (h0 : 0 ≤ c) (h1 : c ≤ 15) : ∃ v,spec_l8Needs.f c = some v ∧ impl_needsOf.f c = some v:=by
  obtain ⟨n,rfl⟩:=Int.eq_ofNat_of_zero_le h0
  obtain ⟨h,hs⟩:=needs_all ⟨n,by omega⟩
  obtain ⟨v,hv⟩:=Option.isSome_iff_exists.1 hs
  exact ⟨v,hv,h ▸ hv⟩
theorem reads_both (k : Nat) {op r b : Int} (s m er e : Int) (hr : 0 ≤ r) (hb : 0 ≤ b ∧ b ≤ 7) (h13 : op = 13 → r ≤ 1) :
    ∃ v,spec_l14Reads.f op s r m er e b = some v ∧ impl_readsOf.f (k + 1) op s r m er e b = some v:=by
  by_cases ho : op = 13
  · have h1 : wrap64 (b + wrap64 (8 * r)) = b + 8 * r:=by
      have:=h13 ho
      rw [wrap64_id (n:=8 * r) (by omega) (by omega),wrap64_id (by omega) (by omega)]
    obtain ⟨v,e1,e2⟩:=needs_same (c:=b + 8 * r) (by omega) (by have:=h13 ho;omega)
    refine ⟨v,?_,?_⟩
    · unfold spec_l14Reads.f
      rw [if_pos ho,h1,e1]
      rfl
    · unfold impl_readsOf.f
      rw [if_pos ho,h1,e2]
      rfl
  · refine ⟨if op = 12 then (if 6 ≤ b then 16 else 0) else if op = 18 then 20 else if op = 19 then (if b = 1 then 31 else 0) else 0,?_,?_⟩
    · unfold spec_l14Reads.f
      simp only [lFlag_eq,Option.bind_some]
      grind
    · unfold impl_readsOf.f
      simp only [impl_readsOf.j0]
      grind
theorem lWrite_eq (op s r m er e b : Int) : spec_l14Write.f op s r m er e b = some (mayWriteB op m b):=by
  unfold spec_l14Write.f mayWriteB
  simp only [lMemory_eq,Option.bind_some]
  grind
theorem iWrite_eq {op b : Int} (s r m er e : Int) (h11 : op = 11 → b ≤ 3) : impl_mayWrite.f op s r m er e b = some (mayWriteB op m b):=by
  unfold impl_mayWrite.f mayWriteB
  simp only [isMemory_eq,Option.bind_some]
  by_cases h : op = 11
  · have e : decide (b < 3) = !decide (b = 3):=by
      have:=h11 h
      rw [Bool.eq_iff_iff]
      simp
      omega
    rw [e]
    grind
  · grind
def mayFaultB (op m b : Int) : Bool:=if op = 10 then false else if op = 14 then b == 1 else if op = 17 ∨ op = 18 then true else if op = 15 then decide (b ≤ 4) && b != 2 else if op = 19 then b == 0 else memB m
theorem lFault_eq (k : Nat) (op s r m er e b : Int) : spec_l14Fault.f (k + 1) op s r m er e b = some (mayFaultB op m b):=by
  unfold spec_l14Fault.f mayFaultB
  simp only [spec_l14Fault.j0,lMemory_eq,Option.bind_some]
  grind
theorem iFault_eq (k : Nat) {op b : Int} (s r m er e : Int) (h0 : 0 ≤ b) : impl_mayFault.f (k + 2) op s r m er e b = some (mayFaultB op m b):=by
  unfold impl_mayFault.f mayFaultB
  simp only [impl_mayFault.j0,impl_mayFault.j1,isMemory_eq,Option.bind_some]
  by_cases h14 : op = 14
  · subst h14
    rw [iWrite_eq s r m er e (by omega)]
    simp [mayWriteB]
  · by_cases h10 : op = 10
    · subst h10
      rw [iWrite_eq s r m er e (by omega)]
      simp [mayWriteB]
    · by_cases h15 : op = 15
      · subst h15
        have : b = 0 ∨ b = 1 ∨ b = 2 ∨ b = 3 ∨ b = 4 ∨ 5 ≤ b:=by omega
        rcases this with rfl | rfl | rfl | rfl | rfl | h5
        all_goals try simp
        have e0 : ¬ b = 0:=by omega
        have e1 : ¬ b = 1:=by omega
        have e3 : ¬ b = 3:=by omega
        have e4 : ¬ b = 4:=by omega
        have e5 : ¬ b ≤ 4:=by omega
        simp [e0,e1,e3,e4,e5]
      · have hb : ∀ c : Int,(b == c) = decide (b = c):=fun _ => rfl
        grind
theorem stepNat {i n : Nat} (h : i < n) (hn : n ≤ 1048576) : wrap64 ((i : Int) + 1) = ((i + 1 : Nat) : Int):=by
  rw [wrap64_id (by omega) (by omega)]
  omega
theorem rdI {l : List Int} {i : Nat} (h : i < l.length) : rd l (i : Int) = l[i]:=by
  simp [rd,List.getElem?_eq_getElem h]
theorem setMap {α β : Type} (f : α → β) (z : β) (l : List α) (i m : Nat) (h : i + (m + 1) = l.length) :
    ((l.take i).map f ++ List.replicate (m + 1) z).set i (f (l[i]'(by omega))) = (l.take (i + 1)).map f ++ List.replicate m z:=by
  have hi : i < l.length:=by omega
  rw [List.set_append_right _ _ (by simp;omega),List.take_succ_eq_append_getElem hi,List.map_append,List.append_assoc]
  congr 1
  have : i - ((l.take i).map f).length = 0:=by simp;omega
  rw [this,List.replicate_succ]
  rfl
def Fits (k : Nat) (n : Nat) : Prop:=n ≤ 1048576 ∧ n < k
theorem rdII {l : List S68} {i : Nat} (h : i < l.length) : rd_T68 l (i : Int) = l[i]:=by
  simp [rd_T68,h]
theorem rdIL {l : List S82} {i : Nat} (h : i < l.length) : rd_T82 l (i : Int) = l[i]:=by
  simp [rd_T82,h]
def convI (x : S82) : S68:=⟨x.f0,x.f1,x.f2,⟨x.f3.f0,x.f3.f1,x.f3.f2⟩,x.f4⟩
def goodI (x : S68) : Bool:=goodIns x.f0 x.f1 x.f2 x.f3.f0 x.f3.f1 x.f3.f2 x.f4
def strI (x : S68) : Bool:=straightB x.f0 x.f4
theorem rdB {l : List Bool} {i : Nat} (h : i < l.length) : rdOf false l (i : Int) = l[i]:=by
  simp [rdOf,List.getElem?_eq_getElem h]
theorem needs_rng : ∀ c : Fin 16,(spec_l8Needs.f (c.val : Int)).all (fun v => decide (0 ≤ v ∧ v ≤ 31)) = true:=by decide +kernel
theorem reads_in (k : Nat) {x : S68} (h : goodI x = true) : ∃ v,spec_l14Reads.f x.f0 x.f1 x.f2 x.f3.f0 x.f3.f1 x.f3.f2 x.f4 = some v ∧ impl_readsOf.f (k + 1) x.f0 x.f1 x.f2 x.f3.f0 x.f3.f1 x.f3.f2 x.f4 = some v ∧ 0 ≤ v ∧ v ≤ 31:=by
  obtain ⟨v,e1,e2⟩:=reads_both k x.f1 x.f3.f0 x.f3.f1 x.f3.f2 (good_parts h).2.1.1 (good_parts h).2.2.1 (good_13 h)
  refine ⟨v,e1,e2,?_⟩
  have hb:=(good_parts h).2.2.1
  have hr:=(good_parts h).2.1.1
  have h13:=good_13 h
  unfold spec_l14Reads.f at e1
  by_cases ho : x.f0 = 13
  · have h1 : wrap64 (x.f4 + wrap64 (8 * x.f2)) = x.f4 + 8 * x.f2:=by
      have:=h13 ho
      rw [wrap64_id (n:=8 * x.f2) (by omega) (by omega),wrap64_id (by omega) (by omega)]
    rw [if_pos ho,h1] at e1
    have:=needs_rng ⟨(x.f4 + 8 * x.f2).toNat,by have:=h13 ho;omega⟩
    simp only [Int.toNat_of_nonneg (show 0 ≤ x.f4 + 8 * x.f2 by omega)] at this
    cases hv : spec_l8Needs.f (x.f4 + 8 * x.f2) with
    | none => rw [hv] at e1;cases e1
    | some u =>
      rw [hv] at e1 this
      simp at e1 this
      omega
  · rw [if_neg ho] at e1
    simp only [lFlag_eq,Option.bind_some] at e1
    grind
theorem need_bits : ∀ n s : Fin 32,0 ≤ bits .andNot .i64 (n.val : Int) (s.val : Int) ∧ bits .andNot .i64 (n.val : Int) (s.val : Int) ≤ 31 ∧ bits .or .i64 (n.val : Int) (s.val : Int) = bits .or .i64 (s.val : Int) (n.val : Int) ∧
    0 ≤ bits .or .i64 (n.val : Int) (s.val : Int) ∧ bits .or .i64 (n.val : Int) (s.val : Int) ≤ 31:=by decide +kernel
theorem or_ends : ∀ n : Fin 32,bits .or .i64 (n.val : Int) 0 = (n.val : Int) ∧ bits .or .i64 (n.val : Int) 31 = 31:=by decide +kernel
theorem need_same {n s v : Int} (hn : 0 ≤ n ∧ n ≤ 31) (hs : 0 ≤ s ∧ s ≤ 31) (hv : 0 ≤ v ∧ v ≤ 31) (f : Bool) :
    bits .or .i64 (bits .or .i64 (bits .andNot .i64 n s) v) (if f then 31 else 0) = (if f then 31 else bits .or .i64 v (bits .andNot .i64 n s)) ∧
    0 ≤ (if f then 31 else bits .or .i64 v (bits .andNot .i64 n s)) ∧ (if f then 31 else bits .or .i64 v (bits .andNot .i64 n s)) ≤ 31:=by
  obtain ⟨a,rfl⟩:=Int.eq_ofNat_of_zero_le hn.1
  obtain ⟨b,rfl⟩:=Int.eq_ofNat_of_zero_le hs.1
  have h1:=need_bits ⟨a,by omega⟩ ⟨b,by omega⟩
  simp only at h1
  generalize bits .andNot .i64 (a : Int) (b : Int) = u at *
  obtain ⟨h10,h11,_⟩:=h1
  obtain ⟨c,rfl⟩:=Int.eq_ofNat_of_zero_le h10
  obtain ⟨d,rfl⟩:=Int.eq_ofNat_of_zero_le hv.1
  have h2:=need_bits ⟨c,by omega⟩ ⟨d,by omega⟩
  simp only at h2
  obtain ⟨_,_,h23,h24,h25⟩:=h2
  rw [← h23]
  generalize bits .or .i64 (c : Int) (d : Int) = e at *
  obtain ⟨g,rfl⟩:=Int.eq_ofNat_of_zero_le h24
  have h3:=or_ends ⟨g,by omega⟩
  simp only at h3
  cases f
  · exact ⟨h3.1,by omega,by omega⟩
  · exact ⟨h3.2,by simp,by simp⟩
theorem setsI_31 (op b : Int) : 0 ≤ setsI op b ∧ setsI op b ≤ 31:=by
  unfold setsI
  grind
theorem dead_loop (l : List S68) (hl : l.length ≤ 1048576) (hg : ∀ x ∈ l,goodI x = true) : ∀ (n : Nat) (out : List Bool) (need : Int),n ≤ l.length → out.length = l.length → 0 ≤ need ∧ need ≤ 31 →
    ∃ r : List Bool,r.length = l.length ∧ (∀ k,2 * n + 6 < k → spec_l14Dead.l0 k l out need ((n : Int) - 1) = some r) ∧ (∀ k,2 * n + 6 < k → impl_deadFlags.l0 k l out need ((n : Int) - 1) = some r):=by
  intro n
  induction n with
  | zero =>
    intro out need _ ho _
    refine ⟨out,ho,fun k hk => ?_,fun k hk => ?_⟩
    · obtain ⟨k,rfl⟩ : ∃ n,k = n + 1:=⟨k - 1,by omega⟩
      rw [spec_l14Dead.l0,if_neg (by omega)]
    · obtain ⟨k,rfl⟩ : ∃ n,k = n + 1:=⟨k - 1,by omega⟩
      rw [impl_deadFlags.l0,if_neg (by omega)]
  | succ n ih =>
    intro out need hn ho hd
    have hi : n < l.length:=by omega
    have hgi : goodI l[n] = true:=hg _ (List.getElem_mem hi)
    have hs:=setsI_31 l[n].f0 l[n].f4
    have e1 : ((n + 1 : Nat) : Int) - 1 = (n : Int):=by omega
    have e2 : wrap64 ((n : Int) - 1) = (n : Int) - 1:=wrap64_id (by omega) (by omega)
    obtain ⟨v,hv1,_,hv⟩:=reads_in 0 hgi
    have hns:=need_same hd hs hv (mayFaultB l[n].f0 l[n].f3.f0 l[n].f4)
    have hlf : ∀ k,spec_l14Fault.f (k + 1) l[n].f0 l[n].f1 l[n].f2 l[n].f3.f0 l[n].f3.f1 l[n].f3.f2 l[n].f4 = some (mayFaultB l[n].f0 l[n].f3.f0 l[n].f4):=fun k => lFault_eq k _ _ _ _ _ _ _
    have hif : ∀ k,impl_mayFault.f (k + 2) l[n].f0 l[n].f1 l[n].f2 l[n].f3.f0 l[n].f3.f1 l[n].f3.f2 l[n].f4 = some (mayFaultB l[n].f0 l[n].f3.f0 l[n].f4):=fun k => iFault_eq k _ _ _ _ _ (good_parts hgi).2.2.1.1
    have hrd : spec_l14Reads.f l[n].f0 l[n].f1 l[n].f2 l[n].f3.f0 l[n].f3.f1 l[n].f3.f2 l[n].f4 = some v ∧ ∀ k,impl_readsOf.f (k + 1) l[n].f0 l[n].f1 l[n].f2 l[n].f3.f0 l[n].f3.f1 l[n].f3.f2 l[n].f4 = some v:=by
      refine ⟨hv1,fun k => ?_⟩
      obtain ⟨v',g1,g2,_⟩:=reads_in k hgi
      have : v' = v:=Option.some.inj (g1.symm.trans hv1)
      exact this ▸ g2
    have hset : ∀ b : Bool,(out.set n b).length = l.length:=fun b => by simp [ho]
    obtain ⟨r,hr,h1,h2⟩:=ih (out.set n (setsI l[n].f0 l[n].f4 != 0 && (bits .and .i64 (setsI l[n].f0 l[n].f4) need == 0 && !mayWriteB l[n].f0 l[n].f3.f0 l[n].f4))) _ (by omega) (hset _) ⟨hns.2.1,hns.2.2⟩
    refine ⟨r,hr,fun k hk => ?_,fun k hk => ?_⟩
    · obtain ⟨k,rfl⟩ : ∃ m,k = m + 3:=⟨k - 3,by omega⟩
      rw [e1,show k + 3 = (k + 2) + 1 from rfl,spec_l14Dead.l0,if_pos (by omega),if_pos (by omega),if_pos (by omega),rdII hi,lSets_eq k,Option.bind_some,Int.toNat_natCast,e2]
      simp only [hrd.1,hlf (k + 1),lFlag_eq,lWrite_eq,Option.bind_some,ho,hns.1]
      have h1':=h1 (k + 2) (by omega)
      by_cases c1 : setsI l[n].f0 l[n].f4 = 0
      · rw [if_pos c1,if_pos (by omega)]
        rw [show (setsI l[n].f0 l[n].f4 != 0 && (bits .and .i64 (setsI l[n].f0 l[n].f4) need == 0 && !mayWriteB l[n].f0 l[n].f3.f0 l[n].f4)) = false by simp [c1]] at h1'
        exact h1'
      · rw [if_neg c1]
        by_cases c2 : bits .and .i64 (setsI l[n].f0 l[n].f4) need = 0
        · rw [if_pos c2,if_pos (by omega)]
          rw [show (setsI l[n].f0 l[n].f4 != 0 && (bits .and .i64 (setsI l[n].f0 l[n].f4) need == 0 && !mayWriteB l[n].f0 l[n].f3.f0 l[n].f4)) = !mayWriteB l[n].f0 l[n].f3.f0 l[n].f4 by simp [c1,c2]] at h1'
          exact h1'
        · rw [if_neg c2,if_pos (by omega)]
          rw [show (setsI l[n].f0 l[n].f4 != 0 && (bits .and .i64 (setsI l[n].f0 l[n].f4) need == 0 && !mayWriteB l[n].f0 l[n].f3.f0 l[n].f4)) = false by simp [c1,c2]] at h1'
          exact h1'
    · obtain ⟨k,rfl⟩ : ∃ m,k = m + 4:=⟨k - 4,by omega⟩
      have hj : ∀ b : Bool,b = (setsI l[n].f0 l[n].f4 != 0 && (bits .and .i64 (setsI l[n].f0 l[n].f4) need == 0 && !mayWriteB l[n].f0 l[n].f3.f0 l[n].f4)) →
          impl_deadFlags.j1 (k + 3) l (out.set n b) need (n : Int) (setsI l[n].f0 l[n].f4) l[n].f0 l[n].f1 l[n].f2 l[n].f3.f0 l[n].f3.f1 l[n].f3.f2 l[n].f4 = some r:=by
        intro b hb
        rw [show k + 3 = (k + 2) + 1 from rfl,impl_deadFlags.j1,hrd.2 (k + 1),Option.bind_some,hif k,Option.bind_some,e2,hb]
        have h2':=h2 (k + 2) (by omega)
        cases hf : mayFaultB l[n].f0 l[n].f3.f0 l[n].f4 with
        | true => rw [if_pos rfl];simpa [hf] using h2'
        | false => rw [if_neg (by simp)];simpa [hf] using h2'
      rw [e1,show k + 4 = (k + 3) + 1 from rfl,impl_deadFlags.l0,if_pos (by omega),if_pos (by omega),if_pos (by omega),rdII hi,iSets_eq k l[n].f1 l[n].f2 l[n].f3.f0 l[n].f3.f1 l[n].f3.f2 (good_15 hgi),Option.bind_some,Int.toNat_natCast]
      simp only [iWrite_eq l[n].f1 l[n].f2 l[n].f3.f0 l[n].f3.f1 l[n].f3.f2 (good_11 hgi),Option.bind_some,ho]
      by_cases c1 : setsI l[n].f0 l[n].f4 = 0
      · rw [if_pos c1,if_pos (by omega)]
        exact hj _ (by simp [c1])
      · rw [if_neg c1]
        by_cases c2 : bits .and .i64 (setsI l[n].f0 l[n].f4) need = 0
        · rw [if_pos c2,if_pos (by omega)]
          exact hj _ (by simp [c1,c2])
        · rw [if_neg c2,if_pos (by omega)]
          exact hj _ (by simp [c1,c2])
theorem dead_eq {l : List S68} (hl : l.length ≤ 1048576) (hg : ∀ x ∈ l,goodI x = true) : ∃ r : List Bool,r.length = l.length ∧ ∀ k,2 * l.length + 6 < k → spec_l14Dead.f k l = some r ∧ impl_deadFlags.f k l = some r:=by
  obtain ⟨r,hr,h1,h2⟩:=dead_loop l hl hg l.length (List.replicate l.length false) 31 (by omega) (by simp) (by omega)
  refine ⟨r,hr,fun k hk => ?_⟩
  unfold spec_l14Dead.f impl_deadFlags.f
  rw [if_pos (by omega),if_pos (by rw [Int.toNat_natCast];omega),if_pos (by omega),if_pos (by rw [Int.toNat_natCast];omega),Int.toNat_natCast,wrap64_id (by omega) (by omega)]
  exact ⟨h1 k hk,h2 k hk⟩
theorem rdMI {l : List S70} {i : Nat} (h : i < l.length) : rd_T70 l (i : Int) = l[i]:=by
  simp [rd_T70,h]
theorem eqMicro_self (a b c d e f g h : Int) (i : Bool) : laws_eqMicro.f a b c d e f g h i a b c d e f g h i = some true:=by simp [laws_eqMicro.f,laws_eqIns.f,laws_eqOperand.f]
theorem eqMicroS_loop (l : List S70) (hl : l.length ≤ 1048576) : ∀ (m i k : Nat),i + m = l.length → m < k → laws_eqMicroS.l0 k l l (i : Int) = some true
  | 0,i,k,h,hk => by
    obtain ⟨k,rfl⟩ : ∃ n,k = n + 1:=⟨k - 1,by omega⟩
    rw [laws_eqMicroS.l0,if_neg (by omega)]
  | m + 1,i,k,h,hk => by
    obtain ⟨k,rfl⟩ : ∃ n,k = n + 1:=⟨k - 1,by omega⟩
    have hi : i < l.length:=by omega
    rw [laws_eqMicroS.l0,if_pos (by omega),if_pos (by omega),if_pos (by omega),eqMicro_self,Option.bind_some,if_pos rfl,stepNat hi hl]
    exact eqMicroS_loop l hl m (i + 1) k (by omega) (by omega)
theorem eqMicroS_eq {l : List S70} {k : Nat} (h : Fits k l.length) : laws_eqMicroS.f k l l = some true:=by
  unfold laws_eqMicroS.f
  rw [if_pos rfl]
  exact eqMicroS_loop l h.1 l.length 0 k (by omega) h.2
theorem eqUnit_eq {l : List S70} {k : Nat} (h : Fits k l.length) (a b : Int) : laws_eqUnit.f k a b l a b l = some true:=by
  unfold laws_eqUnit.f
  rw [if_pos rfl,if_pos rfl,eqMicroS_eq h,Option.bind_some,if_pos rfl]
theorem rdML {l : List S84} {i : Nat} (h : i < l.length) : rd_T84 l (i : Int) = l[i]:=by
  simp [rd_T84,h]
def convM (x : S84) : S70:=⟨convI x.f0,x.f1,x.f2⟩
theorem toMicroS_loop (l : List S84) (hl : l.length ≤ 1048576) : ∀ (m i k : Nat),i + m = l.length → m < k →
    laws_toMicroS.l0 k l ((l.take i).map convM ++ List.replicate m z70) (i : Int) = some (l.map convM)
  | 0,i,k,h,hk => by
    obtain ⟨k,rfl⟩ : ∃ n,k = n + 1:=⟨k - 1,by omega⟩
    rw [laws_toMicroS.l0,if_neg (by omega),List.take_of_length_le (by omega)]
    simp
  | m + 1,i,k,h,hk => by
    obtain ⟨k,rfl⟩ : ∃ n,k = n + 1:=⟨k - 1,by omega⟩
    have hi : i < l.length:=by omega
    rw [laws_toMicroS.l0,if_pos (by omega),if_pos (by omega),rdML hi]
    unfold laws_toMicro.f laws_toIns.f laws_toOperand.f
    simp only [Option.bind_some]
    rw [if_pos (by simp;omega),stepNat hi hl,Int.toNat_natCast]
    change laws_toMicroS.l0 k l (((l.take i).map convM ++ List.replicate (m + 1) z70).set i (convM l[i])) ((i + 1 : Nat) : Int) = _
    rw [setMap convM z70 l i m h]
    exact toMicroS_loop l hl m (i + 1) k (by omega) (by omega)
theorem toMicroS_eq {l : List S84} {k : Nat} (h : Fits k l.length) : laws_toMicroS.f k l = some (l.map convM):=by
  unfold laws_toMicroS.f
  rw [if_pos (by omega),if_pos (by rw [Int.toNat_natCast];have:=h.1;omega)]
  have:=toMicroS_loop l h.1 l.length 0 k (by omega) h.2
  simpa using this
theorem toUnit_eq {l : List S84} {k : Nat} (h : Fits k l.length) (a b : Int) : laws_toUnit.f k a b l = some (a,b,l.map convM):=by
  unfold laws_toUnit.f
  rw [toMicroS_eq h]
  rfl
theorem szUnit_eq (a0 a1 : Int) (l : List S84) (a : Int) (ha : 0 ≤ a ∧ a ≤ 1048576) (h : l.length ≤ 9223372036854775807) : ∃ r,laws_szUnit.f a0 a1 l a = some r ∧ (r < 0 ∨ (0 ≤ r ∧ r ≤ 1048576 ∧ l.length ≤ 1048576)):=by
  unfold laws_szUnit.f laws_szMicroS.f
  rw [wrap64_id (by omega) (by omega)]
  by_cases h : a - (l.length : Int) < 0
  · rw [if_pos h,Option.bind_some,if_pos (by omega)]
    exact ⟨-1,rfl,Or.inl (by omega)⟩
  · rw [if_neg h,Option.bind_some,if_neg (by omega)]
    exact ⟨_,rfl,Or.inr (by omega)⟩
theorem orJ {a b : Int} (j : Nat) (ha : 0 ≤ a) (hj : a * ((2 ^ j : Nat) : Int) < 9223372036854775808) (hb0 : 0 ≤ b) (hb : b < ((2 ^ j : Nat) : Int)) (hj2 : ((2 ^ j : Nat) : Int) ≤ 9223372036854775808) :
    bits .or .i64 (a * ((2 ^ j : Nat) : Int)) b = a * ((2 ^ j : Nat) : Int) + b:=by
  obtain ⟨n,rfl⟩:=Int.eq_ofNat_of_zero_le ha
  obtain ⟨m,rfl⟩:=Int.eq_ofNat_of_zero_le hb0
  have hm : m < 2 ^ j:=by omega
  have e : ((n : Int) * ((2 ^ j : Nat) : Int)) = ((2 ^ j * n : Nat) : Int):=by rw [Nat.mul_comm];push_cast;rfl
  rw [e] at hj ⊢
  rw [or_nat (2 ^ j * n) m (by omega) (by omega),← Nat.two_pow_add_eq_or_of_lt hm n]
  push_cast
  rfl
def eW (x : S68) : Int:=if x.f3.f0 ≥ 5 then 4 else 2
def words1 (x : S68) : List Int:=if x.f3.f0 ≥ 5 then [x.f0 * 2048 + (x.f1 - 1) * 1024 + x.f2 * 256 + x.f3.f0 * 32 + x.f3.f1 * 8 + x.f4,x.f3.f2] else [x.f0 * 2048 + (x.f1 - 1) * 1024 + x.f2 * 256 + x.f3.f0 * 32 + x.f3.f1 * 8 + x.f4]
theorem words1_len (x : S68) : 2 * ((words1 x).length : Int) = eW x:=by
  unfold words1 eW
  by_cases h : x.f3.f0 ≥ 5 <;> simp [h]
theorem good_ranges {x : S68} (h : goodI x = true) : (1 ≤ x.f0 ∧ x.f0 ≤ 19) ∧ (1 ≤ x.f1 ∧ x.f1 ≤ 2) ∧ (0 ≤ x.f2 ∧ x.f2 ≤ 3) ∧ (0 ≤ x.f3.f0 ∧ x.f3.f0 ≤ 7) ∧ (0 ≤ x.f3.f1 ∧ x.f3.f1 ≤ 3) ∧ (0 ≤ x.f4 ∧ x.f4 ≤ 7):=by
  have hp:=good_parts h
  have he:=hp.2.2.2.1
  have hk:=hp.2.2.2.2
  refine ⟨?_,by omega,hp.2.1,?_,?_,hp.2.2.1⟩
  · by_cases hr : 1 ≤ x.f0 ∧ x.f0 ≤ 19
    · exact hr
    · exfalso
      unfold kindB at hk
      simp [show ¬ x.f0 = 1 by omega,show ¬ x.f0 = 2 by omega,show ¬ x.f0 = 3 by omega,show ¬ x.f0 = 4 by omega,show ¬ x.f0 = 5 by omega,show ¬ x.f0 = 6 by omega,show ¬ x.f0 = 7 by omega,show ¬ x.f0 = 8 by omega,show ¬ x.f0 = 9 by omega,show ¬ x.f0 = 10 by omega,show ¬ x.f0 = 11 by omega,show ¬ x.f0 = 12 by omega,show ¬ x.f0 = 13 by omega,show ¬ x.f0 = 14 by omega,show ¬ x.f0 = 15 by omega,show ¬ x.f0 = 16 by omega,show ¬ x.f0 = 17 by omega,show ¬ x.f0 = 18 by omega,show ¬ x.f0 = 19 by omega] at hk
  · unfold goodEa at he
    grind
  · unfold goodEa at he
    grind
theorem iEncode_eq {x : S68} (h : goodI x = true) : impl_encoded.f x.f0 x.f1 x.f2 x.f3.f0 x.f3.f1 x.f3.f2 x.f4 = some (words1 x):=by
  obtain ⟨h0,h1,h2,h3,h4,h5⟩:=good_ranges h
  unfold impl_encoded.f impl_needsExt.f words1
  rw [wrap64_id (n:=x.f0 * 2048) (by omega) (by omega),wrap64_id (n:=x.f1 - 1) (by omega) (by omega),wrap64_id (n:=(x.f1 - 1) * 1024) (by omega) (by omega),wrap64_id (n:=x.f2 * 256) (by omega) (by omega),wrap64_id (n:=x.f3.f0 * 32) (by omega) (by omega),wrap64_id (n:=x.f3.f1 * 8) (by omega) (by omega),
    wrap64_id (n:=x.f0 * 2048 + (x.f1 - 1) * 1024) (by omega) (by omega),wrap64_id (n:=x.f0 * 2048 + (x.f1 - 1) * 1024 + x.f2 * 256) (by omega) (by omega),wrap64_id (n:=x.f0 * 2048 + (x.f1 - 1) * 1024 + x.f2 * 256 + x.f3.f0 * 32) (by omega) (by omega),wrap64_id (n:=x.f0 * 2048 + (x.f1 - 1) * 1024 + x.f2 * 256 + x.f3.f0 * 32 + x.f3.f1 * 8) (by omega) (by omega),wrap64_id (n:=x.f0 * 2048 + (x.f1 - 1) * 1024 + x.f2 * 256 + x.f3.f0 * 32 + x.f3.f1 * 8 + x.f4) (by omega) (by omega)]
  rcases (by omega : x.f3.f0 = 5 ∨ x.f3.f0 = 6 ∨ x.f3.f0 = 7 ∨ x.f3.f0 < 5) with hm | hm | hm | hm
  · simp [hm]
  · simp [hm]
  · simp [hm]
  · simp [show ¬ x.f3.f0 = 5 by omega,show ¬ x.f3.f0 = 6 by omega,show ¬ x.f3.f0 = 7 by omega,show ¬ 5 ≤ x.f3.f0 by omega]
theorem lEncode_eq {x : S68} (h : goodI x = true) : spec_l7Encode.f x.f0 x.f1 x.f2 x.f3.f0 x.f3.f1 x.f3.f2 x.f4 = some (words1 x):=by
  obtain ⟨h0,h1,h2,h3,h4,h5⟩:=good_ranges h
  unfold spec_l7Encode.f spec_l6Ext.f words1
  rw [wrap64_id (n:=x.f0 * 2048) (by omega) (by omega),wrap64_id (n:=x.f1 - 1) (by omega) (by omega),wrap64_id (n:=(x.f1 - 1) * 1024) (by omega) (by omega),wrap64_id (n:=x.f2 * 256) (by omega) (by omega),wrap64_id (n:=x.f3.f0 * 32) (by omega) (by omega),wrap64_id (n:=x.f3.f1 * 8) (by omega) (by omega)]
  have e1 : bits .or .i64 (x.f0 * 2048) ((x.f1 - 1) * 1024) = x.f0 * 2048 + (x.f1 - 1) * 1024:=orJ (a:=x.f0) 11 (by omega) (by omega) (by omega) (by omega) (by decide)
  have e2 : bits .or .i64 (x.f0 * 2048 + (x.f1 - 1) * 1024) (x.f2 * 256) = x.f0 * 2048 + (x.f1 - 1) * 1024 + x.f2 * 256:=by
    have:=orJ (a:=x.f0 * 2 + (x.f1 - 1)) (b:=x.f2 * 256) 10 (by omega) (by omega) (by omega) (by omega) (by decide)
    rw [show x.f0 * 2048 + (x.f1 - 1) * 1024 = (x.f0 * 2 + (x.f1 - 1)) * ((2 ^ 10 : Nat) : Int) by omega]
    exact this
  have e3 : bits .or .i64 (x.f0 * 2048 + (x.f1 - 1) * 1024 + x.f2 * 256) (x.f3.f0 * 32) = x.f0 * 2048 + (x.f1 - 1) * 1024 + x.f2 * 256 + x.f3.f0 * 32:=by
    have:=orJ (a:=x.f0 * 8 + (x.f1 - 1) * 4 + x.f2) (b:=x.f3.f0 * 32) 8 (by omega) (by omega) (by omega) (by omega) (by decide)
    rw [show x.f0 * 2048 + (x.f1 - 1) * 1024 + x.f2 * 256 = (x.f0 * 8 + (x.f1 - 1) * 4 + x.f2) * ((2 ^ 8 : Nat) : Int) by omega]
    exact this
  have e4 : bits .or .i64 (x.f0 * 2048 + (x.f1 - 1) * 1024 + x.f2 * 256 + x.f3.f0 * 32) (x.f3.f1 * 8) = x.f0 * 2048 + (x.f1 - 1) * 1024 + x.f2 * 256 + x.f3.f0 * 32 + x.f3.f1 * 8:=by
    have:=orJ (a:=x.f0 * 64 + (x.f1 - 1) * 32 + x.f2 * 8 + x.f3.f0) (b:=x.f3.f1 * 8) 5 (by omega) (by omega) (by omega) (by omega) (by decide)
    rw [show x.f0 * 2048 + (x.f1 - 1) * 1024 + x.f2 * 256 + x.f3.f0 * 32 = (x.f0 * 64 + (x.f1 - 1) * 32 + x.f2 * 8 + x.f3.f0) * ((2 ^ 5 : Nat) : Int) by omega]
    exact this
  have e5 : bits .or .i64 (x.f0 * 2048 + (x.f1 - 1) * 1024 + x.f2 * 256 + x.f3.f0 * 32 + x.f3.f1 * 8) x.f4 = x.f0 * 2048 + (x.f1 - 1) * 1024 + x.f2 * 256 + x.f3.f0 * 32 + x.f3.f1 * 8 + x.f4:=by
    have:=orJ (a:=x.f0 * 256 + (x.f1 - 1) * 128 + x.f2 * 32 + x.f3.f0 * 4 + x.f3.f1) (b:=x.f4) 3 (by omega) (by omega) (by omega) (by omega) (by decide)
    rw [show x.f0 * 2048 + (x.f1 - 1) * 1024 + x.f2 * 256 + x.f3.f0 * 32 + x.f3.f1 * 8 = (x.f0 * 256 + (x.f1 - 1) * 128 + x.f2 * 32 + x.f3.f0 * 4 + x.f3.f1) * ((2 ^ 3 : Nat) : Int) by omega]
    exact this
  rw [e1,e2,e3,e4,e5]
  by_cases hm : x.f3.f0 ≥ 5 <;> simp [hm]
def endOf (a : Int) : List S70 → Int
  | [] => a
  | m :: l => endOf (a + eW m.f0) l
def gAts (a : Int) : List S70 → Bool
  | [] => true
  | m :: l => goodI m.f0 && (decide (m.f1 = a) && gAts (a + eW m.f0) l)
def gStr : List S70 → Bool
  | [] => true
  | [m] => goodI m.f0
  | m :: (n :: l) => goodI m.f0 && (strI m.f0 && gStr (n :: l))
def mkU (a : Int) : List S68 → List Bool → List S70
  | x :: xs,s :: ss => ⟨x,a,s⟩ :: mkU (a + eW x) xs ss
  | _,_ => []
theorem eW_in (x : S68) : eW x = 2 ∨ eW x = 4:=by unfold eW;split <;> simp
theorem endOf_in (l : List S70) : ∀ a,a ≤ endOf a l ∧ endOf a l ≤ a + 4 * (l.length : Int):=by
  induction l with
  | nil => intro a;simp [endOf]
  | cons m l ih =>
    intro a
    have:=ih (a + eW m.f0)
    have h:=eW_in m.f0
    simp only [endOf,List.length_cons]
    omega
theorem lIns_go (L : List S70) (hL : L.length ≤ 1048576) : ∀ (d i k : Nat) (X : List S68) (c : Int),i + d = L.length → X.length + d ≤ 1048576 → 0 ≤ c ∧ c ≤ X.length → d < k →
    spec_l15List.l0 (k + 1) X c L (L.length : Int) (i : Int) = some (X ++ (L.drop i).map (·.f0),c + ((((L.drop i).map (·.f0)).countP strI : Nat) : Int)):=by
  intro d
  induction d with
  | zero =>
    intro i k X c hi _ _ hk
    rw [spec_l15List.l0,if_neg (by omega),List.drop_of_length_le (by omega)]
    simp
  | succ d ih =>
    intro i k X c hi hx hc hk
    have hlt : i < L.length:=by omega
    obtain ⟨k,rfl⟩ : ∃ m,k = m + 1:=⟨k - 1,by omega⟩
    rw [spec_l15List.l0,if_pos (by omega),if_pos (by omega),if_pos (by omega),if_pos (by omega),Option.bind_some,rdMI hlt,lStraight_eq k,Option.bind_some,stepNat hlt hL,List.drop_eq_getElem_cons hlt,wrap64_id (n:=c + 1) (by omega) (by omega)]
    change (if strI L[i].f0 = true then _ else _) = _
    cases hs : strI L[i].f0 with
    | true =>
      rw [if_pos rfl]
      refine (ih (i + 1) k (X ++ [L[i].f0]) (c + 1) (by omega) (by simp;omega) (by simp;omega) (by omega)).trans ?_
      simp [-List.map_drop,-List.getElem_cons_drop,hs]
      omega
    | false =>
      rw [if_neg (by simp)]
      refine (ih (i + 1) k (X ++ [L[i].f0]) c (by omega) (by simp;omega) (by simp;omega) (by omega)).trans ?_
      simp [-List.map_drop,-List.getElem_cons_drop,hs]
theorem lIns_eq (a b : Int) {L : List S70} (hL : L.length ≤ 1048576) {k : Nat} (hk : L.length < k) : spec_l15List.f (k + 1) a b L = some (L.map (·.f0),(((L.map (·.f0)).countP strI : Nat) : Int)):=by
  unfold spec_l15List.f
  have:=lIns_go L hL L.length 0 k [] 0 (by omega) (by simp;omega) (by simp) hk
  simpa using this
theorem iIns_go (L : List S70) (hL : L.length ≤ 1048576) : ∀ (d i k : Nat) (X : List S68),i + d = L.length → X.length + d ≤ 1048576 → d < k →
    impl_insOf.l0 k X L (L.length : Int) (i : Int) = some (X ++ (L.drop i).map (·.f0)):=by
  intro d
  induction d with
  | zero =>
    intro i k X hi _ hk
    obtain ⟨k,rfl⟩ : ∃ m,k = m + 1:=⟨k - 1,by omega⟩
    rw [impl_insOf.l0,if_neg (by omega),List.drop_of_length_le (by omega)]
    simp
  | succ d ih =>
    intro i k X hi hx hk
    have hlt : i < L.length:=by omega
    obtain ⟨k,rfl⟩ : ∃ m,k = m + 1:=⟨k - 1,by omega⟩
    rw [impl_insOf.l0,if_pos (by omega),if_pos (by omega),if_pos (by omega),if_pos (by omega),rdMI hlt,stepNat hlt hL,List.drop_eq_getElem_cons hlt]
    refine (ih (i + 1) k (X ++ [L[i].f0]) (by omega) (by simp;omega) (by omega)).trans ?_
    simp [-List.map_drop,-List.getElem_cons_drop]
theorem iIns_eq (a b : Int) {L : List S70} (hL : L.length ≤ 1048576) {k : Nat} (hk : L.length < k) : impl_insOf.f k a b L = some (L.map (·.f0)):=by
  unfold impl_insOf.f
  have:=iIns_go L hL L.length 0 k [] (by omega) (by simp;omega) hk
  simpa using this
theorem lUnit_go (L : List S70) (hL : L.length ≤ 1048576) (X : List S68) (c n p0 p1 : Int) (p2 : List S70) : ∀ (d i k : Nat) (a : Int),i + d = L.length → 0 ≤ a → a + 4 * (d : Int) ≤ 4611686018427387904 →
    spec_GoodUnit.l0 (d + (k + 4)) X c n a L (L.length : Int) (i : Int) p0 p1 p2 = if gAts a (L.drop i) then spec_GoodUnit.l0 (k + 4) X c n (endOf a (L.drop i)) L (L.length : Int) (L.length : Int) p0 p1 p2 else some false:=by
  intro d
  induction d with
  | zero =>
    intro i k a hi _ _
    obtain rfl : i = L.length:=by omega
    simp [gAts,endOf]
  | succ d ih =>
    intro i k a hi ha hb
    have hlt : i < L.length:=by omega
    have hw:=eW_in L[i].f0
    rw [show d + 1 + (k + 4) = ((d + k + 1) + 3) + 1 from by omega,spec_GoodUnit.l0,if_pos (by omega),if_pos (by omega),if_pos (by omega),rdMI hlt,lGoodIns_eq (d + k + 1),Option.bind_some,stepNat hlt hL,List.drop_eq_getElem_cons hlt]
    simp only [gAts,endOf]
    change (if goodI L[i].f0 = true then _ else _) = _
    by_cases hg : goodI L[i].f0 = true
    · rw [if_pos hg]
      by_cases he : L[i].f1 = a
      · rw [if_pos he,lEncode_eq hg,Option.bind_some,wrap64_id (n:=2 * _) (by have:=words1_len L[i].f0;omega) (by have:=words1_len L[i].f0;omega),words1_len,wrap64_id (by omega) (by omega),show d + k + 1 + 3 = d + (k + 4) from by omega,ih (i + 1) k (a + eW L[i].f0) (by omega) (by omega) (by omega)]
        simp [he,hg]
      · rw [if_neg he]
        simp [he]
    · rw [if_neg hg]
      simp [hg]
theorem iUnit_go (L : List S70) (hL : L.length ≤ 1048576) (p0 p1 : Int) (p2 : List S70) : ∀ (d i k : Nat),i + d = L.length →
    impl_GoodUnit.l0 (d + (k + 4)) (L.length : Int) L (L.length : Int) (i : Int) p0 p1 p2 = if gStr (L.drop i) then impl_GoodUnit.l0 (k + 4) (L.length : Int) L (L.length : Int) (L.length : Int) p0 p1 p2 else some false:=by
  intro d
  induction d with
  | zero =>
    intro i k hi
    obtain rfl : i = L.length:=by omega
    simp [gStr]
  | succ d ih =>
    intro i k hi
    have hlt : i < L.length:=by omega
    rw [show d + 1 + (k + 4) = ((d + k + 1) + 3) + 1 from by omega,impl_GoodUnit.l0,if_pos (by omega),if_pos (by omega),if_pos (by omega),rdMI hlt,iGoodIns_eq (d + k + 1),Option.bind_some,stepNat hlt hL,List.drop_eq_getElem_cons hlt,wrap64_id (n:=(L.length : Int) - 1) (by omega) (by omega)]
    change (if goodI L[i].f0 = true then _ else _) = _
    have hx:=ih (i + 1) k (by omega)
    cases hd : L.drop (i + 1) with
    | nil =>
      have : L.length ≤ i + 1:=by simpa using hd
      rw [hd] at hx
      simp only [gStr]
      by_cases hg : goodI L[i].f0 = true
      · rw [if_pos hg,if_neg (by omega),show d + k + 1 + 3 = d + (k + 4) from by omega,hx]
        simp [gStr,hg]
      · rw [if_neg hg]
        simp [hg]
    | cons m l =>
      have : i + 1 < L.length:=by
        have:=congrArg List.length hd
        simp at this
        omega
      rw [hd] at hx
      simp only [gStr]
      by_cases hg : goodI L[i].f0 = true
      · rw [if_pos hg,if_pos (by omega),show d + k + 1 + 3 = (d + k + 3) + 1 from by omega,iStraight_eq (d + k + 3),Option.bind_some]
        change (if strI L[i].f0 = true then _ else _) = _
        by_cases hs : strI L[i].f0 = true
        · rw [if_pos hs,show d + k + 3 + 1 = d + (k + 4) from by omega,hx]
          simp [hg,hs]
        · rw [if_neg hs]
          simp [hs]
      · rw [if_neg hg]
        simp [hg]
def endI (a : Int) : List S68 → Int
  | [] => a
  | x :: l => endI (a + eW x) l
theorem endOf_map (l : List S70) : ∀ a,endOf a l = endI a (l.map (·.f0)):=by
  induction l with
  | nil => intro a;rfl
  | cons m l ih => intro a;simp only [endOf,List.map_cons,endI];exact ih _
theorem unitOf_go (row : List S68) (dead : List Bool) (X : List S68) (hX : X.length ≤ 1048576) (hg : ∀ x ∈ X,goodI x = true) (hd : dead.length = row.length) (sk : List Bool) (hs : sk.length = X.length)
    (hsk : ∀ i (h : i < sk.length),sk[i] = if h2 : i < dead.length then dead[i] else false) (p : Int) : ∀ (d i k : Nat) (a : Int) (acc : List S70),i + d = X.length → acc.length + d ≤ 1048576 → 0 ≤ a → a + 4 * (d : Int) ≤ 4611686018427387904 → d < k →
    impl_unitOf.l0 k row dead X (X.length : Int) (i : Int) p a acc = some (p,endI a (X.drop i),acc ++ mkU a (X.drop i) (sk.drop i)):=by
  intro d
  induction d with
  | zero =>
    intro i k a acc hi _ _ _ hk
    obtain ⟨k,rfl⟩ : ∃ m,k = m + 1:=⟨k - 1,by omega⟩
    rw [impl_unitOf.l0,if_neg (by omega),List.drop_of_length_le (by omega)]
    simp [endI,mkU]
  | succ d ih =>
    intro i k a acc hi hacc ha hb hk
    have hlt : i < X.length:=by omega
    have hlt2 : i < sk.length:=by omega
    have hw:=eW_in X[i]
    have hgi : goodI X[i] = true:=hg _ (List.getElem_mem hlt)
    obtain ⟨k,rfl⟩ : ∃ m,k = m + 1:=⟨k - 1,by omega⟩
    have hlen:=words1_len X[i]
    rw [impl_unitOf.l0,if_pos (by omega),if_pos (by omega),if_pos (by omega),rdII hlt,stepNat hlt hX,List.drop_eq_getElem_cons hlt,List.drop_eq_getElem_cons hlt2,iEncode_eq hgi]
    simp only [Option.bind_some,endI,mkU]
    rw [wrap64_id (n:=2 * ((words1 X[i]).length : Int)) (by omega) (by omega),hlen,wrap64_id (n:=a + eW X[i]) (by omega) (by omega)]
    have hsi:=hsk i hlt2
    by_cases hr : (i : Int) < (row.length : Int)
    · rw [if_pos hr,if_pos (by omega),if_pos (by omega),rdB (show i < dead.length by omega)]
      rw [dif_pos (show i < dead.length by omega)] at hsi
      rw [← hsi]
      refine (ih (i + 1) k (a + eW X[i]) (acc ++ [⟨X[i],a,sk[i]⟩]) (by omega) (by simp;omega) (by omega) (by omega) (by omega)).trans ?_
      simp
    · rw [if_neg hr,if_pos (by omega)]
      rw [dif_neg (show ¬ i < dead.length by omega)] at hsi
      rw [hsi]
      refine (ih (i + 1) k (a + eW X[i]) (acc ++ [⟨X[i],a,false⟩]) (by omega) (by simp;omega) (by omega) (by omega) (by omega)).trans ?_
      simp
theorem skips_both {X : List S68} (h0 : X ≠ []) (hX : X.length ≤ 1048576) (hg : ∀ x ∈ X,goodI x = true) : ∃ sk : List Bool,sk.length = X.length ∧ (∀ k,2 * X.length + 20 < k → spec_l15Skips.f k X = some sk) ∧
    (∀ k a,0 ≤ a ∧ a ≤ 1048576 → 2 * X.length + 20 < k → impl_unitOf.f k X a = some (a,endI a X,mkU a X sk)):=by
  have hl : 0 < X.length:=List.length_pos_iff.mpr h0
  have e1 : wrap64 ((X.length : Int) - 1) = ((X.length - 1 : Nat) : Int):=by rw [wrap64_id (by omega) (by omega)];omega
  have hlast : X.length - 1 < X.length:=by omega
  cases hs : strI X[X.length - 1] with
  | true =>
    obtain ⟨r,hr,hd⟩:=dead_eq hX hg
    refine ⟨r,hr,fun k hk => ?_,fun k a ha hk => ?_⟩
    · obtain ⟨k,rfl⟩ : ∃ m,k = m + 1:=⟨k - 1,by omega⟩
      unfold spec_l15Skips.f
      rw [if_pos (by omega),e1,if_pos (by omega),if_pos (by omega),rdII hlast,lStraight_eq k,Option.bind_some]
      change spec_l15Skips.j0 (k + 1) X (X.length : Int) (!strI X[X.length - 1]) = _
      rw [hs,spec_l15Skips.j0,if_neg (by simp),(hd k (by omega)).1]
      rfl
    · obtain ⟨k,rfl⟩ : ∃ m,k = m + 1:=⟨k - 1,by omega⟩
      unfold impl_unitOf.f
      rw [e1,if_pos (by omega),if_pos (by omega),rdII hlast,iStraight_eq k,Option.bind_some]
      change (if strI X[X.length - 1] = true then _ else _) = _
      rw [if_pos hs,impl_unitOf.j0,(hd k (by omega)).2,Option.bind_some]
      have:=unitOf_go X r X hX hg hr r hr (fun i h => by rw [dif_pos h]) a X.length 0 k a [] (by omega) (by simp;omega) ha.1 (by omega) (by omega)
      simpa using this
  | false =>
    have ht : (X.take (X.length - 1)).length = X.length - 1:=by simp
    obtain ⟨r,hr,hd⟩:=dead_eq (l:=X.take (X.length - 1)) (by omega) (fun x hx => hg x (List.mem_of_mem_take hx))
    refine ⟨r ++ [false],by simp;omega,fun k hk => ?_,fun k a ha hk => ?_⟩
    · obtain ⟨k,rfl⟩ : ∃ m,k = m + 1:=⟨k - 1,by omega⟩
      unfold spec_l15Skips.f
      rw [if_pos (by omega),e1,if_pos (by omega),if_pos (by omega),rdII hlast,lStraight_eq k,Option.bind_some]
      change spec_l15Skips.j0 (k + 1) X (X.length : Int) (!strI X[X.length - 1]) = _
      rw [hs,spec_l15Skips.j0,if_pos (by simp),e1,if_pos (by omega),if_pos (by omega),Int.toNat_natCast,(hd k (by omega)).1,Option.bind_some,if_pos (by omega)]
    · obtain ⟨k,rfl⟩ : ∃ m,k = m + 1:=⟨k - 1,by omega⟩
      unfold impl_unitOf.f
      rw [e1,if_pos (by omega),if_pos (by omega),rdII hlast,iStraight_eq k,Option.bind_some]
      change (if strI X[X.length - 1] = true then _ else _) = _
      rw [if_neg (by simp [hs]),if_pos (by omega),Int.toNat_natCast,impl_unitOf.j0,(hd k (by omega)).2,Option.bind_some]
      have:=unitOf_go (X.take (X.length - 1)) r X hX hg hr (r ++ [false]) (by simp;omega) (fun i h => by
        by_cases h2 : i < r.length
        · rw [dif_pos h2,List.getElem_append_left h2]
        · rw [dif_neg h2]
          simp at h
          rw [List.getElem_append_right (by omega)]
          simp) a X.length 0 k a [] (by omega) (by simp;omega) ha.1 (by omega) (by omega)
      simpa using this
theorem eqM_go (L L' : List S70) (hL : L.length ≤ 1048576) (hl : L.length = L'.length) : ∀ (d i k : Nat),i + d = L.length → d < k →
    ∃ b,impl_Micro_51.l0 k L L' (L.length : Int) (i : Int) = some b ∧ (b = true ↔ L.drop i = L'.drop i):=by
  intro d
  induction d with
  | zero =>
    intro i k hi hk
    obtain ⟨k,rfl⟩ : ∃ m,k = m + 1:=⟨k - 1,by omega⟩
    rw [impl_Micro_51.l0,if_neg (by omega),List.drop_of_length_le (by omega),List.drop_of_length_le (by omega)]
    exact ⟨true,rfl,by simp⟩
  | succ d ih =>
    intro i k hi hk
    obtain ⟨k,rfl⟩ : ∃ m,k = m + 1:=⟨k - 1,by omega⟩
    have h1 : i < L.length:=by omega
    have h2 : i < L'.length:=by omega
    rw [impl_Micro_51.l0,if_pos (by omega),if_pos (by omega),if_pos (by omega),if_pos (by omega),rdMI h1,rdMI h2,stepNat h1 hL,List.drop_eq_getElem_cons h1,List.drop_eq_getElem_cons h2]
    obtain ⟨b,hb,hiff⟩:=ih (i + 1) k (by omega) (by omega)
    generalize L[i] = u
    generalize L'[i] = v
    obtain ⟨⟨u0,u1,u2,⟨u3,u4,u5⟩,u6⟩,u7,u8⟩:=u
    obtain ⟨⟨v0,v1,v2,⟨v3,v4,v5⟩,v6⟩,v7,v8⟩:=v
    by_cases h : (⟨⟨u0,u1,u2,⟨u3,u4,u5⟩,u6⟩,u7,u8⟩ : S70) = ⟨⟨v0,v1,v2,⟨v3,v4,v5⟩,v6⟩,v7,v8⟩
    · injection h with ha hb7 hb8
      injection ha with g0 g1 g2 gE g6
      injection gE with g3 g4 g5
      subst g0 g1 g2 g3 g4 g5 g6 hb7 hb8
      rw [if_neg (by simp),hb]
      exact ⟨b,rfl,by simp [hiff]⟩
    · rw [if_pos (by
        simp only [Bool.or_eq_true,Bool.not_eq_true',beq_eq_false_iff_ne,ne_eq]
        simp only [S70.mk.injEq,S68.mk.injEq] at h
        grind)]
      exact ⟨false,rfl,by simp [h]⟩
theorem eqM_eq {L L' : List S70} (hL : L.length ≤ 1048576) {k : Nat} (hk : L.length < k) : ∃ b,impl_Micro_51.f k L L' = some b ∧ (b = true ↔ L = L'):=by
  unfold impl_Micro_51.f
  by_cases h : (L.length : Int) = (L'.length : Int)
  · rw [if_pos h]
    have:=eqM_go L L' hL (by omega) L.length 0 k (by omega) hk
    simpa using this
  · rw [if_neg h]
    exact ⟨false,rfl,by
      constructor
      · intro h;cases h
      · intro e;subst e;exact absurd rfl h⟩
theorem lSkip_go (sk : List Bool) (hs : sk.length ≤ 1048576) (p0 p1 : Int) (L : List S70) (hl : sk.length = L.length) : ∀ (d i k : Nat),i + d = sk.length → d < k →
    spec_GoodUnit.l1 k sk (sk.length : Int) (i : Int) p0 p1 L = some (decide (sk.drop i = (L.drop i).map (·.f2))):=by
  intro d
  induction d with
  | zero =>
    intro i k hi hk
    obtain ⟨k,rfl⟩ : ∃ m,k = m + 1:=⟨k - 1,by omega⟩
    rw [spec_GoodUnit.l1,if_neg (by omega),List.drop_of_length_le (by omega),List.drop_of_length_le (by omega)]
    simp
  | succ d ih =>
    intro i k hi hk
    obtain ⟨k,rfl⟩ : ∃ m,k = m + 1:=⟨k - 1,by omega⟩
    have h1 : i < sk.length:=by omega
    have h2 : i < L.length:=by omega
    rw [spec_GoodUnit.l1,if_pos (by omega),if_pos (by omega),if_pos (by omega),if_pos (by omega),rdB h1,rdMI h2,stepNat h1 hs,List.drop_eq_getElem_cons h1,List.drop_eq_getElem_cons h2,ih (i + 1) k (by omega) (by omega)]
    by_cases h : sk[i] = L[i].f2
    · rw [if_neg (by simp [h])]
      simp [-List.getElem_cons_drop,h]
    · rw [if_pos (by simp [h])]
      simp [-List.getElem_cons_drop,h]
theorem gAts_good (L : List S70) : ∀ a,gAts a L = true → ∀ m ∈ L,goodI m.f0 = true:=by
  induction L with
  | nil => intro a _ m hm;simp at hm
  | cons m L ih =>
    intro a h x hx
    simp only [gAts,Bool.and_eq_true] at h
    rcases List.mem_cons.mp hx with rfl | hx
    · exact h.1
    · exact ih _ h.2.2 x hx
theorem mkU_iff (L : List S70) : ∀ (a : Int) (sk : List Bool),sk.length = L.length → (∀ m ∈ L,goodI m.f0 = true) → (mkU a (L.map (·.f0)) sk = L ↔ (sk = L.map (·.f2) ∧ gAts a L = true)):=by
  induction L with
  | nil =>
    intro a sk h _
    obtain rfl : sk = []:=List.eq_nil_of_length_eq_zero h
    simp [mkU,gAts]
  | cons m L ih =>
    intro a sk h hg
    cases sk with
    | nil => simp at h
    | cons s sk =>
      have hi:=ih (a + eW m.f0) sk (by simpa using h) (fun x hx => hg x (by simp [hx]))
      have hm:=hg m (by simp)
      simp only [List.map_cons,mkU,List.cons.injEq,gAts,Bool.and_eq_true,decide_eq_true_eq,hm,true_and]
      obtain ⟨m0,m1,m2⟩:=m
      simp only at hi ⊢
      constructor
      · rintro ⟨h1,h2⟩
        obtain ⟨g1,g2⟩:=hi.mp h2
        injection h1 with _ e1 e2
        exact ⟨⟨e2,g1⟩,e1.symm,g2⟩
      · rintro ⟨⟨e2,g1⟩,e1,g2⟩
        subst e1 e2
        exact ⟨rfl,hi.mpr ⟨g1,g2⟩⟩
theorem gStr_iff (L : List S70) : gStr L = true ↔ ((∀ m ∈ L,goodI m.f0 = true) ∧ ∀ m ∈ L.dropLast,strI m.f0 = true):=by
  induction L with
  | nil => simp [gStr]
  | cons m L ih =>
    cases L with
    | nil => simp [gStr]
    | cons n L =>
      simp only [gStr,Bool.and_eq_true,ih,List.dropLast_cons_cons,List.mem_cons,forall_eq_or_imp]
      constructor
      · rintro ⟨h1,h2,⟨h3,h4⟩,h5⟩;exact ⟨⟨h1,h3,h4⟩,h2,h5⟩
      · rintro ⟨⟨h1,h3,h4⟩,h2,h5⟩;exact ⟨h1,h2,⟨h3,h4⟩,h5⟩
theorem count_iff (X : List S68) (h0 : 0 < X.length) : (¬ (((X.countP strI : Nat) : Int) < (X.length : Int) - 1) ∧ ¬ (((X.countP strI : Nat) : Int) = (X.length : Int) - 1 ∧ strI (X[X.length - 1]'(by omega)) = true)) ↔ ∀ x ∈ X.dropLast,strI x = true:=by
  have hne : X ≠ []:=List.ne_nil_of_length_pos h0
  have hX : X = X.dropLast ++ [X[X.length - 1]'(by omega)]:=by
    have:=(List.dropLast_concat_getLast hne).symm
    rw [List.getLast_eq_getElem] at this
    exact this
  have hc : X.countP strI = X.dropLast.countP strI + (if strI (X[X.length - 1]'(by omega)) then 1 else 0):=by
    conv => lhs;rw [hX]
    rw [List.countP_append]
    simp
  have hl : X.dropLast.length = X.length - 1:=List.length_dropLast
  have hle : X.dropLast.countP strI ≤ X.dropLast.length:=List.countP_le_length
  have hall : X.dropLast.countP strI = X.dropLast.length ↔ ∀ x ∈ X.dropLast,strI x = true:=List.countP_eq_length
  rw [← hall,hc]
  cases strI (X[X.length - 1]'(by omega)) <;> simp <;> omega
theorem unit_both (a0 a1 : Int) {L : List S70} (hL : L.length ≤ 1048576) : ∃ b : Bool,(∀ k,3 * L.length + 60 < k → spec_GoodUnit.f k a0 a1 L = some b ∧ impl_GoodUnit.f k a0 a1 L = some b) ∧
    (b = true → (1 ≤ L.length ∧ L.length ≤ 8) ∧ (0 ≤ a0 ∧ a0 ≤ 512) ∧ a1 ≤ 512 ∧ gAts a0 L = true ∧ endOf a0 L = a1):=by
  by_cases hn : 1 ≤ (L.length : Int) ∧ (L.length : Int) ≤ 8
  case neg =>
    refine ⟨false,fun k hk => ?_,fun h => by cases h⟩
    obtain ⟨k,rfl⟩ : ∃ m,k = m + 1:=⟨k - 1,by omega⟩
    unfold spec_GoodUnit.f impl_GoodUnit.f
    rw [lIns_eq a0 a1 hL (by omega),Option.bind_some,l1In_eq,within_eq]
    simp only [List.length_map,decide_eq_false hn,Option.bind_some]
    rw [if_neg (by simp),if_neg (by simp),spec_GoodUnit.j0,impl_GoodUnit.j0,if_pos rfl,if_pos rfl]
    exact ⟨rfl,rfl⟩
  case pos =>
    have hpos : 0 < L.length:=by omega
    have hX : (L.map (·.f0)).length = L.length:=List.length_map ..
    have himp : ∀ k,3 * L.length + 60 < k → impl_GoodUnit.f k a0 a1 L = if (0 ≤ a0 ∧ a0 ≤ 512) ∧ a0 % 2 = 0 then impl_GoodUnit.l0 (k - 1) (L.length : Int) L (L.length : Int) 0 a0 a1 L else some false:=by
      intro k hk
      obtain ⟨k,rfl⟩ : ∃ m,k = m + 1:=⟨k - 1,by omega⟩
      unfold impl_GoodUnit.f
      rw [within_eq,Option.bind_some,decide_eq_true hn,if_pos rfl,within_eq,Option.bind_some]
      by_cases h : 0 ≤ a0 ∧ a0 ≤ 512
      · rw [decide_eq_true h,if_pos rfl,impl_GoodUnit.j0,Int.tmod_eq_emod_of_nonneg h.1]
        by_cases h2 : a0 % 2 = 0
        · rw [if_neg (by simp;omega),if_pos ⟨h,h2⟩]
          rfl
        · rw [if_pos (by simp;omega),if_neg (by simp [h2])]
      · rw [decide_eq_false h,if_neg (by simp),impl_GoodUnit.j0,if_pos rfl,if_neg (by simp [h])]
    have hspe : ∀ k,3 * L.length + 60 < k → spec_GoodUnit.f k a0 a1 L = if a0 = (L[0]'hpos).f1 ∧ (0 ≤ a0 ∧ a0 ≤ 512) ∧ a0 % 2 = 0 then spec_GoodUnit.l0 (k - 1) (L.map (·.f0)) (((L.map (·.f0)).countP strI : Nat) : Int) (L.length : Int) a0 L (L.length : Int) 0 a0 a1 L else some false:=by
      intro k hk
      obtain ⟨k,rfl⟩ : ∃ m,k = m + 1:=⟨k - 1,by omega⟩
      have h0 : rd_T70 L 0 = L[0]'hpos:=rdMI (i:=0) hpos
      unfold spec_GoodUnit.f
      rw [lIns_eq a0 a1 hL (by omega),Option.bind_some]
      simp only [l1In_eq,hX,decide_eq_true hn,Option.bind_some,if_true,h0]
      rw [if_pos (by omega)]
      by_cases h1 : a0 = (L[0]'hpos).f1
      · rw [if_pos h1]
        by_cases h : 0 ≤ a0 ∧ a0 ≤ 512
        · rw [decide_eq_true h,if_pos rfl,spec_GoodUnit.j0,and_1]
          by_cases h2 : a0 % 2 = 0
          · rw [if_neg (by simp;omega),if_pos ⟨h1,h,h2⟩]
            rfl
          · rw [if_pos (by simp;omega),if_neg (by simp [h2])]
        · rw [decide_eq_false h,if_neg (by simp),spec_GoodUnit.j0,if_pos rfl,if_neg (by simp [h])]
      · rw [if_neg h1,spec_GoodUnit.j0,if_pos rfl,if_neg (by simp [h1])]
    by_cases hfr : (0 ≤ a0 ∧ a0 ≤ 512) ∧ a0 % 2 = 0
    case neg =>
      refine ⟨false,fun k hk => ?_,fun h => by cases h⟩
      rw [himp k hk,hspe k hk,if_neg hfr,if_neg (fun h => hfr h.2)]
      exact ⟨rfl,rfl⟩
    case pos =>
    by_cases hg : ∀ m ∈ L,goodI m.f0 = true
    case neg =>
      refine ⟨false,fun k hk => ?_,fun h => by cases h⟩
      have g1 : gStr L = false:=by
        rw [Bool.eq_false_iff]
        intro h
        exact hg ((gStr_iff L).mp h).1
      have g2 : gAts a0 L = false:=by
        rw [Bool.eq_false_iff]
        intro h
        exact hg (gAts_good L a0 h)
      obtain ⟨k,rfl⟩ : ∃ m,k = L.length + (m + 4) + 1:=⟨k - L.length - 5,by omega⟩
      rw [himp _ hk,hspe _ hk,if_pos hfr,show L.length + (k + 4) + 1 - 1 = L.length + (k + 4) from rfl]
      have e1:=lUnit_go L hL (L.map (·.f0)) (((L.map (·.f0)).countP strI : Nat) : Int) (L.length : Int) a0 a1 L L.length 0 k a0 (by omega) hfr.1.1 (by omega)
      have e2:=iUnit_go L hL a0 a1 L L.length 0 k (by omega)
      rw [show ((0 : Nat) : Int) = 0 from rfl,List.drop_zero,g2,if_neg (by simp)] at e1
      rw [show ((0 : Nat) : Int) = 0 from rfl,List.drop_zero,g1,if_neg (by simp)] at e2
      refine ⟨?_,e2⟩
      split
      · exact e1
      · rfl
    case pos =>
    have hgX : ∀ x ∈ L.map (·.f0),goodI x = true:=by
      intro x hx
      obtain ⟨m,hm,rfl⟩:=List.mem_map.mp hx
      exact hg m hm
    have hne : L.map (·.f0) ≠ []:=by
      intro h
      rw [h] at hX
      simp only [List.length_nil] at hX
      omega
    obtain ⟨sk,hsl,hsp,him⟩:=skips_both (X:=L.map (·.f0)) hne (by omega) hgX
    have hsl' : sk.length = L.length:=by omega
    have hend:=endOf_in L a0
    have hcnt:=count_iff (L.map (·.f0)) (by omega)
    have hdl : (∀ x ∈ (L.map (·.f0)).dropLast,strI x = true) ↔ ∀ m ∈ L.dropLast,strI m.f0 = true:=by
      have e : (L.map (·.f0)).dropLast = L.dropLast.map (·.f0):=by simp [List.dropLast_eq_take,List.map_take]
      rw [e]
      constructor
      · intro h m hm
        exact h _ (List.mem_map_of_mem hm)
      · intro h x hx
        obtain ⟨m,hm,rfl⟩:=List.mem_map.mp hx
        exact h m hm
    have hmk:=mkU_iff L a0 sk hsl' hg
    refine ⟨decide (gAts a0 L = true ∧ (∀ m ∈ L.dropLast,strI m.f0 = true) ∧ endOf a0 L ≤ 512 ∧ endOf a0 L = a1 ∧ sk = L.map (·.f2)),fun k hk => ?_,fun h => ?_⟩
    · obtain ⟨k,rfl⟩ : ∃ m,k = L.length + (m + 4) + 1:=⟨k - L.length - 5,by omega⟩
      rw [himp _ hk,hspe _ hk,if_pos hfr,show L.length + (k + 4) + 1 - 1 = L.length + (k + 4) from rfl]
      have e1:=lUnit_go L hL (L.map (·.f0)) (((L.map (·.f0)).countP strI : Nat) : Int) (L.length : Int) a0 a1 L L.length 0 k a0 (by omega) hfr.1.1 (by omega)
      have e2:=iUnit_go L hL a0 a1 L L.length 0 k (by omega)
      rw [show ((0 : Nat) : Int) = 0 from rfl,List.drop_zero] at e1 e2
      refine ⟨?_,?_⟩
      · by_cases ha : gAts a0 L = true
        · have h0 : a0 = (L[0]'hpos).f1:=by
            cases L with
            | nil => simp at hpos
            | cons m l => simp only [gAts,Bool.and_eq_true,decide_eq_true_eq] at ha;exact ha.2.1.symm
          rw [if_pos ⟨h0,hfr⟩,e1,if_pos ha,show k + 4 = (k + 3) + 1 from rfl,spec_GoodUnit.l0,if_neg (by omega),wrap64_id (n:=(L.length : Int) - 1) (by omega) (by omega)]
          have hj2t : ∀ m,spec_GoodUnit.j2 (m + 1) (L.map (·.f0)) true a0 a1 L = some false:=fun m => by rw [spec_GoodUnit.j2,if_pos rfl]
          have hj2f : spec_GoodUnit.j2 (k + 3) (L.map (·.f0)) false a0 a1 L = some (decide (sk = L.map (·.f2))):=by
            rw [show k + 3 = (k + 2) + 1 from rfl,spec_GoodUnit.j2,if_neg (by simp),hsp (k + 2) (by omega),Option.bind_some]
            have:=lSkip_go sk (by omega) a0 a1 L hsl' sk.length 0 (k + 2) (by omega) (by omega)
            simpa using this
          by_cases c1 : endOf a0 L = a1
          · rw [if_pos c1]
            by_cases c2 : endOf a0 L > 512
            · rw [if_pos c2,hj2t (k + 2)]
              simp [show ¬ endOf a0 L ≤ 512 by omega]
            · rw [if_neg c2]
              by_cases c3 : (((L.map (·.f0)).countP strI : Nat) : Int) < (L.length : Int) - 1
              · rw [if_pos c3,hj2t (k + 2)]
                have : ¬ ∀ m ∈ L.dropLast,strI m.f0 = true:=by
                  rw [← hdl,← hcnt]
                  intro h
                  exact h.1 (by rw [hX];exact c3)
                rw [decide_eq_false (fun h => this h.2.1)]
              · rw [if_neg c3]
                have hlt : L.length - 1 < (L.map (·.f0)).length:=by omega
                have e3 : (L.length : Int) - 1 = ((L.length - 1 : Nat) : Int):=by omega
                by_cases c4 : (((L.map (·.f0)).countP strI : Nat) : Int) = (L.length : Int) - 1
                · rw [if_pos c4,if_pos (by omega),if_pos (by omega),e3,rdII hlt,show k + 3 = (k + 2) + 1 from rfl,lStraight_eq (k + 2),Option.bind_some]
                  change spec_GoodUnit.j2 (k + 3) (L.map (·.f0)) (strI ((L.map (·.f0))[L.length - 1]'hlt)) a0 a1 L = _
                  have e5 : strI ((L.map (·.f0))[L.length - 1]'hlt) = strI ((L.map (·.f0))[(L.map (·.f0)).length - 1]'(by omega)):=by congr 2;omega
                  cases c5 : strI ((L.map (·.f0))[L.length - 1]'hlt) with
                  | true =>
                    rw [hj2t (k + 2)]
                    have : ¬ ∀ m ∈ L.dropLast,strI m.f0 = true:=by
                      rw [← hdl,← hcnt]
                      intro h
                      exact h.2 ⟨by rw [hX];exact c4,by rw [← e5];exact c5⟩
                    rw [decide_eq_false (fun h => this h.2.1)]
                  | false =>
                    rw [hj2f]
                    have : ∀ m ∈ L.dropLast,strI m.f0 = true:=by
                      rw [← hdl,← hcnt]
                      exact ⟨by rw [hX];exact c3,fun h => by rw [← e5,c5] at h;exact absurd h.2 (by simp)⟩
                    simp only [ha,c1,true_and]
                    congr 1
                    simp only [decide_eq_decide]
                    exact ⟨fun h => ⟨this,by omega,h⟩,fun h => h.2.2⟩
                · rw [if_neg c4,hj2f]
                  have : ∀ m ∈ L.dropLast,strI m.f0 = true:=by
                    rw [← hdl,← hcnt]
                    exact ⟨by rw [hX];exact c3,fun h => c4 (by rw [← hX];exact h.1)⟩
                  simp only [ha,c1,true_and]
                  congr 1
                  simp only [decide_eq_decide]
                  exact ⟨fun h => ⟨this,by omega,h⟩,fun h => h.2.2⟩
          · rw [if_neg c1,hj2t (k + 2)]
            simp [c1]
        · rw [decide_eq_false (fun h => ha h.1)]
          split
          · rw [e1,if_neg ha]
          · rfl
      · by_cases hs : gStr L = true
        · rw [e2,if_pos hs,show k + 4 = (k + 3) + 1 from rfl,impl_GoodUnit.l0,if_neg (by omega),iIns_eq a0 a1 hL (by omega),Option.bind_some,him (k + 3) a0 ⟨hfr.1.1,by omega⟩ (by omega),Option.bind_some]
          simp only [← endOf_map]
          have hs2:=((gStr_iff L).mp hs).2
          have hml : (mkU a0 (L.map (·.f0)) sk).length ≤ 1048576:=by
            have : ∀ (X : List S68) (a : Int) (s : List Bool),(mkU a X s).length ≤ X.length:=by
              intro X
              induction X with
              | nil => intro a s;cases s <;> simp [mkU]
              | cons x X ih =>
                intro a s
                cases s with
                | nil => simp [mkU]
                | cons s ss => simp only [mkU,List.length_cons];have:=ih (a + eW x) ss;omega
            have:=this (L.map (·.f0)) a0 sk
            omega
          obtain ⟨b,hb,hbi⟩:=eqM_eq (L':=L) hml (k:=k + 3) (by
            have : (mkU a0 (L.map (·.f0)) sk).length ≤ L.length:=by
              have : ∀ (X : List S68) (a : Int) (s : List Bool),(mkU a X s).length ≤ X.length:=by
                intro X
                induction X with
                | nil => intro a s;cases s <;> simp [mkU]
                | cons x X ih =>
                  intro a s
                  cases s with
                  | nil => simp [mkU]
                  | cons s ss => simp only [mkU,List.length_cons];have:=ih (a + eW x) ss;omega
              have:=this (L.map (·.f0)) a0 sk
              omega
            omega)
          by_cases c2 : endOf a0 L ≤ 512
          · rw [if_pos c2]
            by_cases c1 : endOf a0 L = a1
            · rw [if_pos c1,hb,Option.bind_some]
              have : b = decide (gAts a0 L = true ∧ (∀ m ∈ L.dropLast,strI m.f0 = true) ∧ endOf a0 L ≤ 512 ∧ endOf a0 L = a1 ∧ sk = L.map (·.f2)):=by
                rw [Bool.eq_iff_iff,hbi,hmk,decide_eq_true_eq]
                exact ⟨fun h => ⟨h.2,hs2,c2,c1,h.1⟩,fun h => ⟨h.2.2.2.2,h.1⟩⟩
              rw [this]
            · rw [if_neg c1,decide_eq_false (fun h => c1 h.2.2.2.1)]
          · rw [if_neg c2,decide_eq_false (fun h => c2 h.2.2.1)]
        · rw [e2,if_neg hs,decide_eq_false (fun h => hs ((gStr_iff L).mpr ⟨hg,h.2.1⟩))]
    · rw [decide_eq_true_eq] at h
      exact ⟨by omega,hfr.1,by omega,h.1,h.2.2.2.1⟩
theorem rdCL {l : List S58} {i : Nat} (h : i < l.length) : rd_T58 l (i : Int) = l[i]:=by
  simp [rd_T58,h]
theorem rdCI {l : List S60} {i : Nat} (h : i < l.length) : rd_T60 l (i : Int) = l[i]:=by
  simp [rd_T60,h]
def convC (x : S58) : S60:=⟨⟨x.f0.f0,x.f0.f1,x.f0.f2.map convM⟩,x.f1⟩
theorem toCachedS_loop (l : List S58) (hl : l.length ≤ 1048576) (hs : ∀ x ∈ l,x.f0.f2.length ≤ 1048576) : ∀ (m i k : Nat),i + m = l.length → m + 1048576 < k →
    laws_toCachedS.l0 k l ((l.take i).map convC ++ List.replicate m z60) (i : Int) = some (l.map convC)
  | 0,i,k,h,hk => by
    obtain ⟨k,rfl⟩ : ∃ n,k = n + 1:=⟨k - 1,by omega⟩
    rw [laws_toCachedS.l0,if_neg (by omega),List.take_of_length_le (by omega)]
    simp
  | m + 1,i,k,h,hk => by
    obtain ⟨k,rfl⟩ : ∃ n,k = n + 1:=⟨k - 1,by omega⟩
    have hi : i < l.length:=by omega
    have hx:=hs l[i] (List.getElem_mem hi)
    rw [laws_toCachedS.l0,if_pos (by omega),if_pos (by omega),rdCL hi]
    unfold laws_toCached.f
    rw [toUnit_eq ⟨hx,by omega⟩]
    simp only [Option.bind_some]
    rw [if_pos (by simp;omega),stepNat hi hl,Int.toNat_natCast]
    change laws_toCachedS.l0 k l (((l.take i).map convC ++ List.replicate (m + 1) z60).set i (convC l[i])) ((i + 1 : Nat) : Int) = _
    rw [setMap convC z60 l i m h]
    exact toCachedS_loop l hl hs m (i + 1) k (by omega) (by omega)
theorem toStore_eq {l : List S58} {k : Nat} (hl : l.length ≤ 1048576) (hs : ∀ x ∈ l,x.f0.f2.length ≤ 1048576) (hk : 2097154 < k) (a b : Int) : laws_toStore.f k a b l = some (a,b,l.map convC):=by
  unfold laws_toStore.f laws_toCachedS.f
  rw [if_pos (by omega),if_pos (by rw [Int.toNat_natCast];omega)]
  have:=toCachedS_loop l hl hs l.length 0 k (by omega) (by omega)
  simp only [List.take_zero,List.map_nil,List.nil_append,Int.toNat_natCast] at this ⊢
  have e0 : ((0 : Nat) : Int) = 0:=rfl
  rw [e0] at this
  rw [this]
  rfl
theorem eqCachedS_loop (l : List S60) (hl : l.length ≤ 1048576) (hs : ∀ x ∈ l,x.f0.f2.length ≤ 1048576) : ∀ (m i k : Nat),i + m = l.length → m + 1048576 < k → laws_eqCachedS.l0 k l l (i : Int) = some true
  | 0,i,k,h,hk => by
    obtain ⟨k,rfl⟩ : ∃ n,k = n + 1:=⟨k - 1,by omega⟩
    rw [laws_eqCachedS.l0,if_neg (by omega)]
  | m + 1,i,k,h,hk => by
    obtain ⟨k,rfl⟩ : ∃ n,k = n + 1:=⟨k - 1,by omega⟩
    have hi : i < l.length:=by omega
    have hx:=hs l[i] (List.getElem_mem hi)
    rw [laws_eqCachedS.l0,if_pos (by omega),if_pos (by omega),if_pos (by omega),rdCI hi]
    unfold laws_eqCached.f
    rw [eqUnit_eq ⟨hx,by omega⟩,Option.bind_some,if_pos rfl,if_pos rfl,Option.bind_some,if_pos rfl,stepNat hi hl]
    exact eqCachedS_loop l hl hs m (i + 1) k (by omega) (by omega)
theorem eqStore_eq {l : List S60} {k : Nat} (hl : l.length ≤ 1048576) (hs : ∀ x ∈ l,x.f0.f2.length ≤ 1048576) (hk : 2097154 < k) (a b : Int) : laws_eqStore.f k a b l a b l = some true:=by
  unfold laws_eqStore.f laws_eqCachedS.f
  rw [if_pos rfl,if_pos rfl,if_pos rfl]
  have:=eqCachedS_loop l hl hs l.length 0 k (by omega) (by omega)
  have e0 : ((0 : Nat) : Int) = 0:=rfl
  rw [e0] at this
  rw [this]
  rfl
theorem szCachedS_loop (l : List S58) (hl : l.length ≤ 1048576) (hs : ∀ x ∈ l,x.f0.f2.length ≤ 9223372036854775807) : ∀ (m i k : Nat) (a : Int),i + m = l.length → m < k → 0 ≤ a ∧ a ≤ 1048576 →
    ∃ r,laws_szCachedS.l0 k l a (i : Int) = some r ∧ (r < 0 ∨ (0 ≤ r ∧ ∀ x ∈ l.drop i,x.f0.f2.length ≤ 1048576))
  | 0,i,k,a,h,hk,ha => by
    obtain ⟨k,rfl⟩ : ∃ n,k = n + 1:=⟨k - 1,by omega⟩
    rw [laws_szCachedS.l0,if_neg (by omega)]
    exact ⟨a,rfl,Or.inr ⟨ha.1,by rw [List.drop_of_length_le (by omega)];simp⟩⟩
  | m + 1,i,k,a,h,hk,ha => by
    obtain ⟨k,rfl⟩ : ∃ n,k = n + 1:=⟨k - 1,by omega⟩
    have hi : i < l.length:=by omega
    have hx:=hs l[i] (List.getElem_mem hi)
    obtain ⟨r,hr,hc⟩:=szUnit_eq l[i].f0.f0 l[i].f0.f1 l[i].f0.f2 a ha hx
    rw [laws_szCachedS.l0,if_pos (by omega),if_pos (by omega),rdCL hi]
    unfold laws_szCached.f
    rw [hr,Option.bind_some]
    by_cases h0 : r < 0
    · rw [if_pos h0,Option.bind_some,if_pos (by omega)]
      exact ⟨-1,rfl,Or.inl (by omega)⟩
    · rw [if_neg h0,Option.bind_some,if_neg h0,stepNat hi hl]
      obtain ⟨q0,q1,q2⟩ : 0 ≤ r ∧ r ≤ 1048576 ∧ l[i].f0.f2.length ≤ 1048576:=by
        rcases hc with hc | hc
        · omega
        · exact hc
      obtain ⟨r2,e2,c2⟩:=szCachedS_loop l hl hs m (i + 1) k r (by omega) (by omega) ⟨q0,q1⟩
      refine ⟨r2,e2,?_⟩
      rcases c2 with c2 | ⟨c2,c3⟩
      · exact Or.inl c2
      · refine Or.inr ⟨c2,fun x hx => ?_⟩
        rw [List.drop_eq_getElem_cons hi] at hx
        rcases List.mem_cons.mp hx with rfl | hx
        · exact q2
        · exact c3 x hx
theorem szStore_eq (a0 a1 : Int) (l : List S58) (h : l.length ≤ 9223372036854775807) (hs : ∀ x ∈ l,x.f0.f2.length ≤ 9223372036854775807) (k : Nat) (hk : 1048577 < k) :
    ∃ r,laws_szStore.f k a0 a1 l 1048576 = some r ∧ (r < 0 ∨ (0 ≤ r ∧ l.length ≤ 1048576 ∧ ∀ x ∈ l,x.f0.f2.length ≤ 1048576)):=by
  unfold laws_szStore.f laws_szCachedS.f
  rw [wrap64_id (by omega) (by omega)]
  by_cases h0 : 1048576 - (l.length : Int) < 0
  · rw [if_pos h0,Option.bind_some,if_pos (by omega)]
    exact ⟨-1,rfl,Or.inl (by omega)⟩
  · rw [if_neg h0]
    obtain ⟨r,e,c⟩:=szCachedS_loop l (by omega) hs l.length 0 k (1048576 - (l.length : Int)) (by omega) (by omega) ⟨by omega,by omega⟩
    have e0 : ((0 : Nat) : Int) = 0:=rfl
    rw [e0] at e
    rw [e,Option.bind_some]
    by_cases h1 : r < 0
    · rw [if_pos h1]
      exact ⟨-1,rfl,Or.inl (by omega)⟩
    · rw [if_neg h1]
      refine ⟨r,rfl,Or.inr ⟨by omega,by omega,?_⟩⟩
      rcases c with c | ⟨_,c⟩
      · omega
      · simpa using c
def goodU (u : S38) : Bool:=(spec_GoodUnit.f (3 * u.f2.length + 61) u.f0 u.f1 u.f2).getD false
theorem goodU_both {u : S38} (h : u.f2.length ≤ 1048576) {k : Nat} (hk : 3 * u.f2.length + 60 < k) : spec_GoodUnit.f k u.f0 u.f1 u.f2 = some (goodU u) ∧ impl_GoodUnit.f k u.f0 u.f1 u.f2 = some (goodU u):=by
  obtain ⟨b,hb,_⟩:=unit_both u.f0 u.f1 h
  have e : goodU u = b:=by
    unfold goodU
    rw [(hb _ (by omega)).1]
    rfl
  rw [e]
  exact hb k hk
theorem used_loop (l : List S60) (u : Int) (hl : l.length ≤ 1048576) : ∀ (m i k : Nat),i + m = l.length → m < k →
    ∃ t,GoodStore_used.l0 k l u (i : Int) = some t ∧ decide (t ≥ 0) = (l.drop i).any (fun y => decide (y.f1 = u))
  | 0,i,k,h,hk => by
    obtain ⟨k,rfl⟩ : ∃ n,k = n + 1:=⟨k - 1,by omega⟩
    rw [GoodStore_used.l0,if_neg (by omega),List.drop_of_length_le (by omega)]
    exact ⟨-1,rfl,rfl⟩
  | m + 1,i,k,h,hk => by
    obtain ⟨k,rfl⟩ : ∃ n,k = n + 1:=⟨k - 1,by omega⟩
    have hi : i < l.length:=by omega
    rw [GoodStore_used.l0,if_pos (by omega),if_pos (by omega),rdCI hi,List.drop_eq_getElem_cons hi,List.any_cons]
    by_cases e : l[i].f1 = u
    · rw [if_pos e]
      refine ⟨_,rfl,?_⟩
      rw [decide_eq_true e,Bool.true_or]
      exact decide_eq_true (by omega)
    · rw [if_neg e,stepNat hi hl,decide_eq_false e,Bool.false_or]
      exact used_loop l u hl m (i + 1) k (by omega) (by omega)
theorem used_eq {l : List S60} (u : Int) (hl : l.length ≤ 1048576) {k : Nat} (hk : l.length < k) : GoodStore_used.f k l u = some (l.any (fun y => decide (y.f1 = u))):=by
  obtain ⟨t,e,ht⟩:=used_loop l u hl l.length 0 k (by omega) hk
  have e0 : ((0 : Nat) : Int) = 0:=rfl
  rw [e0] at e
  unfold GoodStore_used.f
  rw [e,Option.bind_some,ht,List.drop_zero]
def okAt (C : Int) (l : List S60) (i : Nat) (h : i < l.length) : Bool :=
  goodU l[i].f0 && (decide (0 ≤ l[i].f1 ∧ l[i].f1 ≤ C) && (!(decide (0 < i) && decide (l[i].f0.f0 ≤ (l[i - 1]'(by omega)).f0.f0)) && !((l.take i).any (fun y => decide (y.f1 = l[i].f1)))))
def okFrom (C : Int) (l : List S60) : (d i : Nat) → i + d = l.length → Bool
  | 0,_,_ => true
  | d + 1,i,h => okAt C l i (by omega) && okFrom C l d (i + 1) (by omega)
theorem lUsed_loop (T x8 x2 : List S60) (hT : T.length ≤ 1048576) (x9 x10 p0 p1 q0 q1 : Int) (q2 : List S70) (u : Int) : ∀ (m j k : Nat),j + m = T.length →
    spec_GoodStore.l1 (k + m + 1) x8 x9 x10 T (T.length : Int) (j : Int) p0 p1 x2 q0 q1 q2 u = if (T.drop j).any (fun y => decide (y.f1 = u)) = true then some false else spec_GoodStore.l0 k x8 x9 (wrap64 (x10 + 1)) p0 p1 x2
  | 0,j,k,h => by
    rw [spec_GoodStore.l1,if_neg (by omega),List.drop_of_length_le (by omega)]
    rfl
  | m + 1,j,k,h => by
    have hj : j < T.length:=by omega
    rw [spec_GoodStore.l1,if_pos (by omega),if_pos (by omega),if_pos (by omega),rdCI hj,List.drop_eq_getElem_cons hj,List.any_cons]
    by_cases e : T[j].f1 = u
    · rw [if_pos e,decide_eq_true e,Bool.true_or,if_pos rfl]
    · rw [if_neg e,stepNat hj hT,decide_eq_false e,Bool.false_or]
      exact lUsed_loop T x8 x2 hT x9 x10 p0 p1 q0 q1 q2 u m (j + 1) k (by omega)
theorem lStore_go (l : List S60) (hl : l.length ≤ 1048576) (hs : ∀ x ∈ l,x.f0.f2.length ≤ 1048576) (p0 p1 : Int) : ∀ (d i k : Nat) (h : i + d = l.length),d * (l.length + 4) + 3145800 < k →
    spec_GoodStore.l0 k l (l.length : Int) (i : Int) p0 p1 l = some (okFrom p1 l d i h && (decide (1 ≤ p0 ∧ p0 ≤ 8) && (decide (0 ≤ p1 ∧ p1 ≤ 1000000) && decide ((l.length : Int) ≤ p0))))
  | 0,i,k,h,hk => by
    obtain ⟨k,rfl⟩ : ∃ n,k = n + 1:=⟨k - 1,by omega⟩
    rw [spec_GoodStore.l0,if_neg (by omega),l1In_eq,l1In_eq,okFrom]
    by_cases h0 : 1 ≤ p0 ∧ p0 ≤ 8 <;> by_cases h1 : 0 ≤ p1 ∧ p1 ≤ 1000000 <;> simp [h0,h1]
  | d + 1,i,k,h,hk => by
    have hi : i < l.length:=by omega
    have hm : (d + 1) * (l.length + 4) = d * (l.length + 4) + (l.length + 4):=Nat.succ_mul _ _
    obtain ⟨k,rfl⟩ : ∃ n,k = n + i + 1 + 1 + 1:=⟨k - i - 3,by omega⟩
    have hx:=hs l[i] (List.getElem_mem hi)
    have ih:=lStore_go l hl hs p0 p1 d (i + 1) k (by omega) (by omega)
    have ht : (l.take i).length = i:=by rw [List.length_take];omega
    have hj : ∀ b : Bool,spec_GoodStore.j1 (k + i + 1 + 1) (i : Int) l (l.length : Int) (i : Int) b p0 p1 l l[i].f0.f0 l[i].f0.f1 l[i].f0.f2 l[i].f1 =
        if b = true then some false else if (l.take i).any (fun y => decide (y.f1 = l[i].f1)) = true then some false else spec_GoodStore.l0 k l (l.length : Int) ((i + 1 : Nat) : Int) p0 p1 l:=by
      intro b
      rw [spec_GoodStore.j1]
      by_cases hb : b = true
      · rw [if_pos hb,if_pos hb]
      · rw [if_neg hb,if_neg hb,if_pos (by omega),if_pos (by omega),Option.bind_some,Int.toNat_natCast]
        have:=lUsed_loop (l.take i) l l (by omega) (l.length : Int) (i : Int) p0 p1 l[i].f0.f0 l[i].f0.f1 l[i].f0.f2 l[i].f1 i 0 k (by omega)
        have e0 : ((0 : Nat) : Int) = 0:=rfl
        rw [e0] at this
        rw [this,List.drop_zero,stepNat hi hl]
    rw [ih] at hj
    rw [spec_GoodStore.l0,if_pos (by omega),if_pos (by omega),if_pos (by omega),rdCI hi,(goodU_both hx (by omega)).1,l1In_eq]
    simp only [Option.bind_some,hj,okFrom,okAt]
    generalize okFrom p1 l d (i + 1) _ = R
    generalize (l.take i).any _ = U
    cases goodU l[i].f0 <;> by_cases h1 : 0 ≤ l[i].f1 ∧ l[i].f1 ≤ p1 <;> simp only [h1,and_self,decide_true,decide_false,Bool.false_eq_true,if_true,if_false,Bool.false_and,Bool.true_and]
    by_cases h2 : 0 < i
    · have h3 : wrap64 ((i : Int) - 1) = ((i - 1 : Nat) : Int):=by rw [wrap64_id (by omega) (by omega)];omega
      have h5 : i - 1 < l.length:=by omega
      rw [if_pos (by omega),h3,if_pos (by omega),if_pos (by omega),rdCI h5]
      by_cases h4 : l[i].f0.f0 ≤ l[i - 1].f0.f0
      · have h4' : l[i - 1].f0.f0 ≥ l[i].f0.f0:=h4
        simp [h2,h4,h4']
      · have h4' : ¬ l[i - 1].f0.f0 ≥ l[i].f0.f0:=h4
        cases U <;> simp [h2,h4,h4']
    · rw [if_neg (by omega)]
      cases U <;> simp [h2]
theorem iStore_go (l : List S60) (hl : l.length ≤ 1048576) (hs : ∀ x ∈ l,x.f0.f2.length ≤ 1048576) (p0 p1 : Int) : ∀ (d i k : Nat) (h : i + d = l.length),2 * d + 4194400 < k →
    impl_GoodStore.l0 k l (l.length : Int) (i : Int) p0 p1 l = some (okFrom p1 l d i h)
  | 0,i,k,h,hk => by
    obtain ⟨k,rfl⟩ : ∃ n,k = n + 1:=⟨k - 1,by omega⟩
    rw [impl_GoodStore.l0,if_neg (by omega),okFrom]
  | d + 1,i,k,h,hk => by
    have hi : i < l.length:=by omega
    obtain ⟨k,rfl⟩ : ∃ n,k = n + 1 + 1:=⟨k - 2,by omega⟩
    have hx:=hs l[i] (List.getElem_mem hi)
    have ih:=iStore_go l hl hs p0 p1 d (i + 1) k (by omega) (by omega)
    have ht : (l.take i).length = i:=by rw [List.length_take];omega
    have hj : ∀ b : Bool,impl_GoodStore.j2 (k + 1) (i : Int) l (l.length : Int) (i : Int) b p0 p1 l l[i].f0.f0 l[i].f0.f1 l[i].f0.f2 l[i].f1 =
        if b = true then some false else if (l.take i).any (fun y => decide (y.f1 = l[i].f1)) = true then some false else impl_GoodStore.l0 k l (l.length : Int) ((i + 1 : Nat) : Int) p0 p1 l:=by
      intro b
      rw [impl_GoodStore.j2]
      by_cases hb : b = true
      · rw [if_pos hb,if_pos hb]
      · rw [if_neg hb,if_neg hb,if_pos (by omega),if_pos (by omega),Int.toNat_natCast,used_eq _ (by omega) (by omega),Option.bind_some,stepNat hi hl]
    rw [ih] at hj
    rw [impl_GoodStore.l0,if_pos (by omega),if_pos (by omega),if_pos (by omega),rdCI hi,(goodU_both hx (by omega)).2,within_eq]
    simp only [Option.bind_some,hj,okFrom,okAt]
    generalize okFrom p1 l d (i + 1) _ = R
    generalize (l.take i).any _ = U
    cases goodU l[i].f0 <;> by_cases h1 : 0 ≤ l[i].f1 ∧ l[i].f1 ≤ p1 <;> simp only [h1,and_self,decide_true,decide_false,Bool.false_eq_true,if_true,if_false,Bool.false_and,Bool.true_and]
    by_cases h2 : 0 < i
    · have h3 : wrap64 ((i : Int) - 1) = ((i - 1 : Nat) : Int):=by rw [wrap64_id (by omega) (by omega)];omega
      have h5 : i - 1 < l.length:=by omega
      rw [if_pos (by omega),h3,if_pos (by omega),if_pos (by omega),rdCI h5]
      by_cases h4 : l[i].f0.f0 ≤ l[i - 1].f0.f0
      · simp [h2,h4]
      · cases U <;> simp [h2,h4]
    · rw [if_neg (by omega)]
      cases U <;> simp [h2]
def goodS (p0 p1 : Int) (l : List S60) : Bool:=okFrom p1 l l.length 0 (Nat.zero_add _) && (decide (1 ≤ p0 ∧ p0 ≤ 8) && (decide (0 ≤ p1 ∧ p1 ≤ 1000000) && decide ((l.length : Int) ≤ p0)))
theorem store_both (p0 p1 : Int) {l : List S60} (hl : l.length ≤ 1048576) (hs : ∀ x ∈ l,x.f0.f2.length ≤ 1048576) {k : Nat} (hk : 1099519950000 < k) :
    spec_GoodStore.f k p0 p1 l = some (goodS p0 p1 l) ∧ impl_GoodStore.f k p0 p1 l = some (goodS p0 p1 l):=by
  have hm : l.length * (l.length + 4) ≤ 1048576 * 1048580:=Nat.mul_le_mul hl (by omega)
  have e0 : ((0 : Nat) : Int) = 0:=rfl
  constructor
  · have:=lStore_go l hl hs p0 p1 l.length 0 k (by omega) (by omega)
    rw [e0] at this
    exact this
  · obtain ⟨k,rfl⟩ : ∃ n,k = n + 1:=⟨k - 1,by omega⟩
    have:=iStore_go l hl hs p0 p1 l.length 0 k (by omega) (by omega)
    rw [e0] at this
    have hj : ∀ b : Bool,impl_GoodStore.j0 (k + 1) b p0 p1 l = if b = true then some false else some (okFrom p1 l l.length 0 (Nat.zero_add _)):=by
      intro b
      rw [impl_GoodStore.j0,this]
    unfold impl_GoodStore.f goodS
    rw [within_eq,within_eq]
    simp only [Option.bind_some,hj]
    generalize okFrom p1 l l.length 0 _ = R
    by_cases h0 : 1 ≤ p0 ∧ p0 ≤ 8 <;> by_cases h1 : 0 ≤ p1 ∧ p1 ≤ 1000000 <;> by_cases h2 : (l.length : Int) ≤ p0 <;> simp [h0,h1,h2,Int.not_lt.mpr,Int.not_le.mp]
theorem w1M {a : Int} (h0 : 0 ≤ a) (h1 : a ≤ 4611686018427387904) : wrap64 (a + 1) = a + 1:=wrap64_id (by omega) (by omega)
def mM (a : Int) : S70:=⟨⟨a,a + 1,a + 1 + 1,⟨a + 1 + 1 + 1,a + 1 + 1 + 1 + 1,a + 1 + 1 + 1 + 1 + 1⟩,a + 1 + 1 + 1 + 1 + 1 + 1⟩,a + 1 + 1 + 1 + 1 + 1 + 1 + 1,(Int.tmod (a + 1 + 1 + 1 + 1 + 1 + 1 + 1 + 1) 3) == 0⟩
def uptoM (a : Int) : Nat → List S70
  | 0 => []
  | n + 1 => mM a :: uptoM (a + 9) n
theorem uptoM_length (a : Int) (n : Nat) : (uptoM a n).length = n:=by
  induction n generalizing a with
  | zero => rfl
  | succ n ih => simp [uptoM,ih]
theorem rdSetM {x : List S70} {i : Nat} (e : S70) (h : i < x.length) : rd_T70 (x.set i e) (i : Int) = e:=by
  rw [rdMI (by simpa using h)]
  simp
theorem markM_l0 (n : Nat) (hn : n ≤ 1048576) : ∀ (d k i : Nat) (a : Int) (x : List S70),x.length = n → i + d = n → d < k → 0 ≤ a → a + 9 * (d : Int) ≤ 4611686018427387904 →
    laws_markMicroS.l0 k x a (i : Int) = some (a + 9 * (d : Int),x.take i ++ uptoM a d):=by
  intro d
  induction d with
  | zero =>
    intro k i a x hx hi hk _ _
    obtain ⟨k,rfl⟩ : ∃ m,k = m + 1:=⟨k - 1,by omega⟩
    rw [laws_markMicroS.l0,if_neg (by omega)]
    simp [uptoM,List.take_of_length_le (show x.length ≤ i by omega)]
  | succ d ih =>
    intro k i a x hx hi hk ha hb
    obtain ⟨k,rfl⟩ : ∃ m,k = m + 1:=⟨k - 1,by omega⟩
    have hlt : i < x.length:=by omega
    rw [laws_markMicroS.l0,if_pos (by omega),if_pos (by omega)]
    simp only [Option.bind_some,Int.toNat_natCast,List.set_set,rdSetM _ hlt]
    rw [w1M ha (by omega),w1M (a:=a + 1) (by omega) (by omega),w1M (a:=a + 1 + 1) (by omega) (by omega),w1M (a:=a + 1 + 1 + 1) (by omega) (by omega),w1M (a:=a + 1 + 1 + 1 + 1) (by omega) (by omega),w1M (a:=a + 1 + 1 + 1 + 1 + 1) (by omega) (by omega),w1M (a:=a + 1 + 1 + 1 + 1 + 1 + 1) (by omega) (by omega),w1M (a:=a + 1 + 1 + 1 + 1 + 1 + 1 + 1) (by omega) (by omega),w1M (a:=a + 1 + 1 + 1 + 1 + 1 + 1 + 1 + 1) (by omega) (by omega),stepNat (n:=n) (by omega) hn]
    have hset : ∀ e : S70,(x.set i e).take (i + 1) = x.take i ++ [e]:=by
      intro e
      rw [List.take_succ_eq_append_getElem (by simp;omega),List.take_set,List.set_eq_of_length_le (by simp;omega)]
      simp
    have:=ih k (i + 1) (a + 1 + 1 + 1 + 1 + 1 + 1 + 1 + 1 + 1) (x.set i (mM a)) (by simp [hx]) (by omega) (by omega) (by omega) (by omega)
    refine this.trans ?_
    rw [hset,show a + 1 + 1 + 1 + 1 + 1 + 1 + 1 + 1 + 1 = a + 9 from by omega]
    simp [uptoM]
    omega
theorem markM_eq (x : List S70) (hx : x.length ≤ 1048576) (a : Int) (k : Nat) (hk : x.length < k) (ha : 0 ≤ a) (hb : a + 9 * (x.length : Int) ≤ 4611686018427387904) :
    laws_markMicroS.f k x a = some (a + 9 * (x.length : Int),uptoM a x.length):=by
  unfold laws_markMicroS.f
  have:=markM_l0 x.length hx x.length k 0 a x rfl (by omega) hk ha hb
  simpa using this
theorem heldM_l0 (x : List S70) (hx : x.length ≤ 1048576) : ∀ (d k i : Nat) (a : Int),x.drop i = uptoM a d → i + d = x.length → d < k → 0 ≤ a → a + 9 * (d : Int) ≤ 4611686018427387904 →
    laws_heldMicroS.l0 k x a (i : Int) = some (a + 9 * (d : Int)):=by
  intro d
  induction d with
  | zero =>
    intro k i a _ hi hk _ _
    obtain ⟨k,rfl⟩ : ∃ m,k = m + 1:=⟨k - 1,by omega⟩
    rw [laws_heldMicroS.l0,if_neg (by omega)]
    simp
  | succ d ih =>
    intro k i a hd hi hk ha hb
    obtain ⟨k,rfl⟩ : ∃ m,k = m + 1:=⟨k - 1,by omega⟩
    have hlt : i < x.length:=by omega
    rw [List.drop_eq_getElem_cons hlt,uptoM] at hd
    injection hd with h1 h2
    rw [laws_heldMicroS.l0,if_pos (by omega),if_pos (by omega),rdMI hlt,h1]
    rw [w1M ha (by omega),w1M (a:=a + 1) (by omega) (by omega),w1M (a:=a + 1 + 1) (by omega) (by omega),w1M (a:=a + 1 + 1 + 1) (by omega) (by omega),w1M (a:=a + 1 + 1 + 1 + 1) (by omega) (by omega),w1M (a:=a + 1 + 1 + 1 + 1 + 1) (by omega) (by omega),w1M (a:=a + 1 + 1 + 1 + 1 + 1 + 1) (by omega) (by omega),w1M (a:=a + 1 + 1 + 1 + 1 + 1 + 1 + 1) (by omega) (by omega),w1M (a:=a + 1 + 1 + 1 + 1 + 1 + 1 + 1 + 1) (by omega) (by omega),stepNat hlt hx]
    simp only [mM,if_true,bne_self_eq_false,Bool.false_eq_true,if_false]
    have:=ih k (i + 1) (a + 1 + 1 + 1 + 1 + 1 + 1 + 1 + 1 + 1) (by rw [h2];congr 1;omega) (by omega) (by omega) (by omega) (by omega)
    rw [this]
    congr 1
    omega
theorem heldM_eq (n : Nat) (hn : n ≤ 1048576) (a : Int) (k : Nat) (hk : n < k) (ha : 0 ≤ a) (hb : a + 9 * (n : Int) ≤ 4611686018427387904) :
    laws_heldMicroS.f k (uptoM a n) a = some (a + 9 * (n : Int)):=by
  unfold laws_heldMicroS.f
  have:=heldM_l0 (uptoM a n) (by rw [uptoM_length];exact hn) n k 0 a (by simp) (by rw [uptoM_length];omega) hk ha hb
  simpa using this
def uptoC (a : Int) : List S60 → List S60
  | [] => []
  | x :: xs => ⟨⟨a,a + 1,uptoM (a + 1 + 1) x.f0.f2.length⟩,a + 1 + 1 + 9 * (x.f0.f2.length : Int)⟩ :: uptoC (a + 1 + 1 + 9 * (x.f0.f2.length : Int) + 1) xs
def endC (a : Int) : List S60 → Int
  | [] => a
  | x :: xs => endC (a + 1 + 1 + 9 * (x.f0.f2.length : Int) + 1) xs
theorem uptoC_length (l : List S60) : ∀ a,(uptoC a l).length = l.length:=by
  induction l with
  | nil => intro a;rfl
  | cons x xs ih => intro a;simp [uptoC,ih]
theorem endC_le (l : List S60) : ∀ a,(∀ x ∈ l,x.f0.f2.length ≤ 1048576) → a ≤ endC a l ∧ endC a l ≤ a + 9437187 * (l.length : Int):=by
  induction l with
  | nil => intro a _;exact ⟨Int.le_refl _,by simp [endC]⟩
  | cons x xs ih =>
    intro a h
    have hx:=h x (List.mem_cons_self ..)
    obtain ⟨h1,h2⟩:=ih (a + 1 + 1 + 9 * (x.f0.f2.length : Int) + 1) (fun y hy => h y (List.mem_cons_of_mem _ hy))
    rw [endC,List.length_cons]
    constructor <;> omega
theorem markC_eq (k : Nat) (hk : 1048576 < k) : ∀ (l : List S60) (a : Int),(∀ x ∈ l,x.f0.f2.length ≤ 1048576) → 0 ≤ a → a + 9437187 * (l.length : Int) ≤ 4611686018427387904 → markCachedL k l a = some (endC a l,uptoC a l)
  | [],a,_,_,_ => rfl
  | x :: xs,a,h,h0,hb => by
    have hx:=h x (List.mem_cons_self ..)
    rw [List.length_cons] at hb
    rw [markCachedL,markCached1,w1M h0 (by omega),w1M (a:=a + 1) (by omega) (by omega),markM_eq x.f0.f2 hx _ k (by omega) (by omega) (by omega)]
    simp only [Option.bind_some]
    rw [w1M (by omega) (by omega),markC_eq k hk xs _ (fun y hy => h y (List.mem_cons_of_mem _ hy)) (by omega) (by omega),Option.bind_some]
    rfl
theorem heldC_l0 (x : List S60) (hx : x.length ≤ 1048576) : ∀ (l : List S60) (k i : Nat) (a : Int),x.drop i = uptoC a l → i + l.length = x.length → l.length + 1048576 < k → (∀ y ∈ l,y.f0.f2.length ≤ 1048576) → 0 ≤ a → a + 9437187 * (l.length : Int) ≤ 4611686018427387904 →
    laws_heldCachedS.l0 k x a (i : Int) = some (endC a l)
  | [],k,i,a,_,hi,hk,_,_,_ => by
    obtain ⟨k,rfl⟩ : ∃ m,k = m + 1:=⟨k - 1,by omega⟩
    rw [List.length_nil] at hi
    rw [laws_heldCachedS.l0,if_neg (by omega)]
    rfl
  | y :: l,k,i,a,hd,hi,hk,h,h0,hb => by
    obtain ⟨k,rfl⟩ : ∃ m,k = m + 1:=⟨k - 1,by omega⟩
    rw [List.length_cons] at hi hk hb
    have hlt : i < x.length:=by omega
    have hy:=h y (List.mem_cons_self ..)
    rw [List.drop_eq_getElem_cons hlt,uptoC] at hd
    injection hd with h1 h2
    rw [laws_heldCachedS.l0,if_pos (by omega),if_pos (by omega),rdCI hlt,h1]
    dsimp only
    rw [w1M h0 (by omega),w1M (a:=a + 1) (by omega) (by omega),if_pos rfl,if_pos rfl,heldM_eq y.f0.f2.length hy _ k (by omega) (by omega) (by omega),Option.bind_some,if_neg (by omega),if_pos rfl,w1M (by omega) (by omega),stepNat hlt hx]
    exact heldC_l0 x hx l k (i + 1) _ h2 (by omega) (by omega) (fun z hz => h z (List.mem_cons_of_mem _ hz)) (by omega) (by omega)
theorem heldC_eq (l : List S60) (hl : l.length ≤ 1048576) (k : Nat) (hk : 2097153 < k) (a : Int) (h : ∀ y ∈ l,y.f0.f2.length ≤ 1048576) (h0 : 0 ≤ a) (hb : a + 9437187 * (l.length : Int) ≤ 4611686018427387904) :
    laws_heldCachedS.f k (uptoC a l) a = some (endC a l) :=
  heldC_l0 (uptoC a l) (by rw [uptoC_length];exact hl) l k 0 a (by simp) (by rw [uptoC_length];omega) (by omega) h h0 hb
theorem ownL_eq (a b : Int) {L : List S70} (h : L.length ≤ 1048576) : spec_l16OwnUnit.f a b L = some (a,b,L):=by
  unfold spec_l16OwnUnit.f
  rw [Option.bind_some,if_pos (by simp only [List.length_nil];omega),List.nil_append]
theorem ownI_eq (a b : Int) {L : List S70} (h : L.length ≤ 1048576) : impl_ownUnit.f a b L = some (a,b,L):=by
  unfold impl_ownUnit.f impl_Micro_74.f
  rw [Option.bind_some,if_pos (by simp only [List.length_nil];omega),List.nil_append,Option.bind_some]
theorem takeC {l : List S60} {i : Nat} (hi : i < l.length) : l.take i ++ [(⟨⟨l[i].f0.f0,l[i].f0.f1,l[i].f0.f2⟩,l[i].f1⟩ : S60)] = l.take (i + 1):=List.take_append_getElem hi
theorem lOwn_loop (l : List S60) (hl : l.length ≤ 1048576) (hs : ∀ x ∈ l,x.f0.f2.length ≤ 1048576) (a b : Int) : ∀ (m i k : Nat),i + m = l.length → m < k → spec_l16Own.l0 k l (l.length : Int) (i : Int) a b (l.take i) = some (a,b,l)
  | 0,i,k,h,hk => by
    obtain ⟨k,rfl⟩ : ∃ n,k = n + 1:=⟨k - 1,by omega⟩
    rw [spec_l16Own.l0,if_neg (by omega),List.take_of_length_le (by omega)]
  | m + 1,i,k,h,hk => by
    obtain ⟨k,rfl⟩ : ∃ n,k = n + 1:=⟨k - 1,by omega⟩
    have hi : i < l.length:=by omega
    have hx:=hs l[i] (List.getElem_mem hi)
    rw [spec_l16Own.l0,if_pos (by omega),if_pos (by omega),if_pos (by omega),rdCI hi,ownL_eq _ _ hx,Option.bind_some,if_pos (by rw [List.length_take];omega),stepNat hi hl,takeC hi]
    exact lOwn_loop l hl hs a b m (i + 1) k (by omega) (by omega)
theorem lOwn_eq {l : List S60} (hl : l.length ≤ 1048576) (hs : ∀ x ∈ l,x.f0.f2.length ≤ 1048576) (a b : Int) {k : Nat} (hk : l.length < k) : spec_l16Own.f k a b l = some (a,b,l) :=
  lOwn_loop l hl hs a b l.length 0 k (by omega) hk
theorem iOwn_loop (l : List S60) (hl : l.length ≤ 1048576) (hs : ∀ x ∈ l,x.f0.f2.length ≤ 1048576) (a b : Int) : ∀ (m i k : Nat),i + m = l.length → m < k → impl_ownStore.l0 k l (l.length : Int) (i : Int) a b (l.take i) = some (a,b,l)
  | 0,i,k,h,hk => by
    obtain ⟨k,rfl⟩ : ∃ n,k = n + 1:=⟨k - 1,by omega⟩
    rw [impl_ownStore.l0,if_neg (by omega),List.take_of_length_le (by omega)]
  | m + 1,i,k,h,hk => by
    obtain ⟨k,rfl⟩ : ∃ n,k = n + 1:=⟨k - 1,by omega⟩
    have hi : i < l.length:=by omega
    have hx:=hs l[i] (List.getElem_mem hi)
    rw [impl_ownStore.l0,if_pos (by omega),if_pos (by omega),if_pos (by omega),rdCI hi,ownI_eq _ _ hx,Option.bind_some,if_pos (by rw [List.length_take];omega),stepNat hi hl,takeC hi]
    exact iOwn_loop l hl hs a b m (i + 1) k (by omega) (by omega)
theorem iOwn_eq {l : List S60} (hl : l.length ≤ 1048576) (hs : ∀ x ∈ l,x.f0.f2.length ≤ 1048576) (a b : Int) {k : Nat} (hk : l.length < k) : impl_ownStore.f k a b l = some (a,b,l) :=
  iOwn_loop l hl hs a b l.length 0 k (by omega) hk
def Up (l : List S60) : Prop:=∀ (i j : Nat) (hj : j < l.length) (h : i < j),(l[i]'(by omega)).f0.f0 < l[j].f0.f0
theorem up_of (C : Int) (l : List S60) : ∀ (d i : Nat) (h : i + d = l.length),okFrom C l d i h = true → (∀ (p q : Nat) (hq : q < l.length) (_ : p < q),q < i → (l[p]'(by omega)).f0.f0 < l[q].f0.f0) → Up l
  | 0,i,h,_,hu => fun p q hq hp => hu p q hq hp (by omega)
  | d + 1,i,h,ho,hu => by
    rw [okFrom,Bool.and_eq_true] at ho
    obtain ⟨h1,h2⟩:=ho
    refine up_of C l d (i + 1) (by omega) h2 (fun p q hq hp hqi => ?_)
    by_cases hlt : q < i
    · exact hu p q hq hp hlt
    · obtain rfl : q = i:=by omega
      unfold okAt at h1
      have h3 : (l[q - 1]'(by omega)).f0.f0 < l[q].f0.f0:=by
        simp only [Bool.and_eq_true,Bool.not_eq_true',Bool.and_eq_false_iff,decide_eq_false_iff_not,decide_eq_true_eq] at h1
        rcases h1.2.2.1 with h4 | h4
        · omega
        · omega
      by_cases hp1 : p = q - 1
      · subst hp1;exact h3
      · exact Int.lt_trans (hu p (q - 1) (by omega) (by omega) (by omega)) h3
theorem goodS_up {a b : Int} {l : List S60} (h : goodS a b l = true) : Up l ∧ l.length ≤ 8 ∧ 0 ≤ b ∧ b ≤ 1000000:=by
  unfold goodS at h
  simp only [Bool.and_eq_true,decide_eq_true_eq] at h
  obtain ⟨h1,h2,h3,h4⟩:=h
  exact ⟨up_of b l _ _ _ h1 (fun _ _ _ _ h => absurd h (Nat.not_lt_zero _)),by omega,h3.1,h3.2⟩
def Miss (l : List S60) (pc : Int) : Prop:=∀ (i : Nat) (h : i < l.length),l[i].f0.f0 ≠ pc
def Hit (l : List S60) (pc : Int) (t : Int) : Prop:=∃ (i : Nat) (h : i < l.length),t = (i : Int) ∧ l[i].f0.f0 = pc
theorem hit_one {l : List S60} {pc t u : Int} (hu : Up l) (h1 : Hit l pc t) (h2 : Hit l pc u) : t = u:=by
  obtain ⟨i,hi,rfl,e1⟩:=h1
  obtain ⟨j,hj,rfl,e2⟩:=h2
  rcases Nat.lt_trichotomy i j with h | h | h
  · have:=hu i j hj h;omega
  · rw [h]
  · have:=hu j i hi h;omega
theorem at_loop (l : List S60) (hl : l.length ≤ 1048576) (pc : Int) : ∀ (m i k : Nat),i + m = l.length → m < k → (∀ (j : Nat) (h : j < l.length),j < i → l[j].f0.f0 ≠ pc) →
    (spec_l16At.l0 k pc l (l.length : Int) (i : Int) = some (-1) ∧ Miss l pc) ∨ ∃ t,spec_l16At.l0 k pc l (l.length : Int) (i : Int) = some t ∧ Hit l pc t
  | 0,i,k,h,hk,hm => by
    obtain ⟨k,rfl⟩ : ∃ n,k = n + 1:=⟨k - 1,by omega⟩
    rw [spec_l16At.l0,if_neg (by omega)]
    exact Or.inl ⟨rfl,fun j hj => hm j hj (by omega)⟩
  | m + 1,i,k,h,hk,hm => by
    obtain ⟨k,rfl⟩ : ∃ n,k = n + 1:=⟨k - 1,by omega⟩
    have hi : i < l.length:=by omega
    rw [spec_l16At.l0,if_pos (by omega),if_pos (by omega),if_pos (by omega),rdCI hi]
    by_cases he : l[i].f0.f0 = pc
    · rw [if_pos he]
      exact Or.inr ⟨_,rfl,i,hi,rfl,he⟩
    · rw [if_neg he,stepNat hi hl]
      exact at_loop l hl pc m (i + 1) k (by omega) (by omega) (fun j hj hlt => by
        by_cases hji : j = i
        · subst hji;exact he
        · exact hm j hj (by omega))
theorem at_eq (l : List S60) (hl : l.length ≤ 1048576) (a b pc : Int) {k : Nat} (hk : l.length < k) :
    (spec_l16At.f k a b l pc = some (-1) ∧ Miss l pc) ∨ ∃ t,spec_l16At.f k a b l pc = some t ∧ Hit l pc t :=
  at_loop l hl pc l.length 0 k (by omega) hk (fun _ _ h => absurd h (Nat.not_lt_zero _))
theorem cmp_eq (x y : Int) : cmp_Compare_int.f x y = some (if x < y then -1 else if x > y then 1 else 0):=by
  unfold cmp_Compare_int.f cmp_isNaN_int.f
  simp only [bne_self_eq_false,Option.bind_some,Bool.false_eq_true,if_false]
  split <;> (try split) <;> rfl
theorem half (i j : Nat) (h : i < j) (hj : j ≤ 1048576) : wrap64 ((IntKind.u64.wrap (wrap64 ((i : Int) + (j : Int)))) / 2) = (((i + j) / 2 : Nat) : Int):=by
  have e1 : wrap64 ((i : Int) + (j : Int)) = (i : Int) + (j : Int):=wrap64_id (by omega) (by omega)
  have e : IntKind.u64.wrap ((i : Int) + (j : Int)) = (i : Int) + (j : Int):=by
    show ((i : Int) + (j : Int)) % 18446744073709551616 = _
    omega
  rw [e1,e,wrap64_id (by omega) (by omega)]
  omega
theorem bs_loop (l : List S60) (hl : l.length ≤ 1048576) (hu : Up l) (pc : Int) : ∀ (m i j k : Nat),j = i + m → j ≤ l.length → m < k → (∀ (q : Nat) (h : q < l.length),q < i → l[q].f0.f0 < pc) → (∀ (q : Nat) (h : q < l.length),j ≤ q → pc ≤ l[q].f0.f0) →
    ∃ (t : Nat) (b : Bool),slices_BinarySearchFunc_75_g76.l0 k l pc (l.length : Int) (i : Int) (j : Int) = some ((t : Int),b) ∧ t ≤ l.length ∧ (∀ (q : Nat) (h : q < l.length),q < t → l[q].f0.f0 < pc) ∧ (∀ (q : Nat) (h : q < l.length),t ≤ q → pc ≤ l[q].f0.f0) ∧ (b = false ∧ Miss l pc ∨ b = true ∧ Hit l pc (t : Int)):=by
  intro m
  induction m using Nat.strongRecOn with
  | ind m ih =>
    intro i j k hj hjl hk hlo hhi
    obtain ⟨k,rfl⟩ : ∃ n,k = n + 1:=⟨k - 1,by omega⟩
    rw [slices_BinarySearchFunc_75_g76.l0]
    by_cases hij : i < j
    · rw [if_pos (by omega),half i j hij (by omega)]
      have hh : (i + j) / 2 < l.length:=by omega
      rw [if_pos (by omega),if_pos (by omega),rdCI hh]
      unfold impl_Store_find_1.f
      rw [cmp_eq,Option.bind_some,Option.bind_some]
      by_cases hc : l[(i + j) / 2].f0.f0 < pc
      · rw [if_pos hc,if_pos (by omega),stepNat (n:=l.length) hh hl]
        refine ih (j - ((i + j) / 2 + 1)) (by omega) ((i + j) / 2 + 1) j k (by omega) hjl (by omega) (fun q hq hlt => ?_) hhi
        by_cases he : q = (i + j) / 2
        · subst he;exact hc
        · exact Int.lt_trans (hu q ((i + j) / 2) hh (by omega)) hc
      · rw [if_neg hc,if_neg (by split <;> omega)]
        refine ih ((i + j) / 2 - i) (by omega) i ((i + j) / 2) k (by omega) (by omega) (by omega) hlo (fun q hq hle => ?_)
        by_cases he : q = (i + j) / 2
        · subst he;omega
        · have:=hu ((i + j) / 2) q hq (by omega);omega
    · rw [if_neg (by omega)]
      obtain rfl : m = 0:=by omega
      obtain rfl : j = i:=by omega
      by_cases hi : j < l.length
      · rw [if_pos (by omega),if_pos (by omega),if_pos (by omega),rdCI hi]
        unfold impl_Store_find_1.f
        rw [cmp_eq,Option.bind_some,Option.bind_some]
        have h0:=hhi j hi (by omega)
        refine ⟨j,_,rfl,by omega,hlo,hhi,?_⟩
        by_cases he : l[j].f0.f0 = pc
        · right
          refine ⟨?_,j,hi,rfl,he⟩
          rw [if_neg (by omega),if_neg (by omega)];rfl
        · left
          refine ⟨?_,fun q hq => ?_⟩
          · rw [if_neg (by omega),if_pos (by omega)];rfl
          · by_cases h1 : q < j
            · have:=hlo q hq h1;omega
            · by_cases h2 : q = j
              · subst h2;exact he
              · have:=hu j q hq (by omega);omega
      · rw [if_neg (by omega)]
        exact ⟨j,_,rfl,hjl,hlo,hhi,Or.inl ⟨rfl,fun q hq => by have:=hlo q hq (by omega);omega⟩⟩
theorem bs_eq (l : List S60) (hl : l.length ≤ 1048576) (hu : Up l) (pc : Int) {k : Nat} (hk : l.length < k) :
    ∃ (t : Nat) (b : Bool),slices_BinarySearchFunc_75_g76.f k l pc = some ((t : Int),b) ∧ t ≤ l.length ∧ (∀ (q : Nat) (h : q < l.length),q < t → l[q].f0.f0 < pc) ∧ (∀ (q : Nat) (h : q < l.length),t ≤ q → pc ≤ l[q].f0.f0) ∧ (b = false ∧ Miss l pc ∨ b = true ∧ Hit l pc (t : Int)) :=
  bs_loop l hl hu pc l.length 0 l.length k (by omega) (by omega) hk (fun _ _ h => absurd h (Nat.not_lt_zero _)) (fun q hq h => absurd hq (by omega))
theorem sAt_eq (pc : Int) : ∀ (l : List S60) (n t : Nat),t ≤ l.length → (∀ (q : Nat) (h : q < l.length),q < t → l[q].f0.f0 < pc) → (∀ (q : Nat) (h : q < l.length),t ≤ q → pc ≤ l[q].f0.f0) → sAt pc l n = n + t
  | [],n,t,h,_,_ => by
    have : t = 0:=by simpa using h
    subst this;rfl
  | x :: xs,n,0,_,_,hhi => by
    rw [sAt,if_neg (by have:=hhi 0 (by simp) (Nat.le_refl _);simp only [List.getElem_cons_zero] at this;omega)];rfl
  | x :: xs,n,t + 1,h,hlo,hhi => by
    rw [sAt,if_pos (by have:=hlo 0 (by simp) (by omega);simpa using this),sAt_eq pc xs (n + 1) t (by simpa using h) (fun q hq ht => ?_) (fun q hq ht => ?_)]
    · omega
    · have:=hlo (q + 1) (by simpa using hq) (by omega);simpa using this
    · have:=hhi (q + 1) (by simpa using hq) (by omega);simpa using this
theorem leastG_lt (l : List S60) : ∀ (xs : List S60) (i b : Nat),i + xs.length ≤ l.length → b < l.length → leastG l xs i b < l.length
  | [],i,b,_,hb => hb
  | x :: xs,i,b,h,hb => by
    rw [List.length_cons] at h
    rw [leastG]
    refine leastG_lt l xs (i + 1) _ (by omega) ?_
    split <;> omega
theorem without_eq {l : List S60} (hl : l.length ≤ 1048576) {i : Nat} (hi : i < l.length) : spec_l16Without.f l (i : Int) = some (l.eraseIdx i):=by
  unfold spec_l16Without.f
  have hw : wrap64 ((i : Int) + 1) = ((i + 1 : Nat) : Int):=stepNat hi hl
  simp only [Option.bind_some,hw,Int.toNat_natCast,List.nil_append]
  rw [if_pos (by omega),if_pos (by omega),if_pos (by simp only [List.length_nil,List.length_take];omega),if_pos (by omega),if_pos (by omega),if_pos (by simp only [List.length_take,List.length_drop];omega),List.eraseIdx_eq_take_drop_succ]
theorem up_erase {l : List S60} (hu : Up l) (i : Nat) : Up (l.eraseIdx i):=by
  intro p q hq hpq
  rw [List.getElem_eraseIdx,List.getElem_eraseIdx]
  rw [List.length_eraseIdx] at hq
  split <;> split
  · exact hu _ _ _ hpq
  · exact hu _ _ _ (by omega)
  · omega
  · exact hu _ _ _ (by omega)
theorem del_both (p0 pc : Int) {L : List S60} (hl : L.length ≤ 1048576) (h1 : 1 ≤ p0) (hu : Up L) {t : Nat} {b : Bool} {t' : Int} (hb : b = false ∧ Miss L pc ∨ b = true ∧ Hit L pc (t : Int)) (ha : t' = -1 ∧ Miss L pc ∨ Hit L pc t') :
    ∃ M,sDel p0 L t' = some M ∧ putDel p0 L (t : Int) b = some M ∧ Up M ∧ M.length ≤ L.length ∧ ∀ x ∈ M,x ∈ L:=by
  have er : ∀ i : Nat,i < L.length → ∃ M,spec_l16Without.f L (i : Int) = some M ∧ L.eraseIdx i = M ∧ Up M ∧ M.length ≤ L.length ∧ ∀ x ∈ M,x ∈ L:=fun i hi =>
    ⟨_,without_eq hl hi,rfl,up_erase hu i,by rw [List.length_eraseIdx];split <;> omega,fun x hx => List.mem_of_mem_eraseIdx hx⟩
  unfold sDel putDel
  rcases hb with ⟨rfl,hm⟩ | ⟨rfl,hh⟩
  · rcases ha with ⟨rfl,_⟩ | ⟨i,hi,_,he⟩
    · rw [if_pos (show (-1 : Int) < 0 by omega),if_neg (show ¬ (false = true) by simp)]
      by_cases hc : (L.length : Int) = p0
      · have hlt:=leastG_lt L L 0 0 (by omega) (by omega)
        rw [if_pos hc,if_pos hc,if_pos hlt,if_pos hlt]
        obtain ⟨M,e1,e2,e3⟩:=er _ hlt
        exact ⟨M,e1,by rw [e2],e3⟩
      · rw [if_neg hc,if_neg hc]
        exact ⟨L,rfl,rfl,hu,Nat.le_refl _,fun _ h => h⟩
    · exact absurd he (hm i hi)
  · rcases ha with ⟨_,hm⟩ | h2
    · obtain ⟨i,hi,_,he⟩:=hh
      exact absurd he (hm i hi)
    · obtain rfl:=hit_one hu hh h2
      obtain ⟨i,hi,hti,_⟩:=hh
      obtain rfl : t = i:=by omega
      rw [if_neg (by omega),if_pos rfl,if_pos ⟨by omega,by omega⟩,Int.toNat_natCast]
      obtain ⟨M,e1,e2,e3⟩:=er _ hi
      exact ⟨M,e1,by rw [e2],e3⟩
theorem put_both (p0 p1 u0 u1 : Int) {L : List S60} {V : List S70} (hl : L.length ≤ 1048576) (hs : ∀ x ∈ L,x.f0.f2.length ≤ 1048576) (hv : V.length ≤ 1048576) {k : Nat} (hk : 1099519950000 < k) :
    ∃ (r1 r2 : Int) (G : List S60) (r4 : Bool),spec_PutUnit.f k p0 p1 L u0 u1 V = some (r1,r2,G,r4) ∧ impl_PutUnit.f k p0 p1 L u0 u1 V = some (r1,r2,G,r4) ∧ G.length ≤ 1048576 ∧ (∀ x ∈ G,x.f0.f2.length ≤ 1048576):=by
  obtain ⟨e1,e2⟩:=store_both p0 p1 hl hs hk
  obtain ⟨d1,d2⟩:=goodU_both (u:=⟨u0,u1,V⟩) hv (k:=k) (by dsimp only;omega)
  dsimp only at d1 d2
  unfold spec_PutUnit.f impl_PutUnit.f
  rw [e1,e2,Option.bind_some,Option.bind_some]
  have hz : ∀ x ∈ ([] : List S60),x.f0.f2.length ≤ 1048576:=fun x hx => absurd hx (List.not_mem_nil)
  cases hg : goodS p0 p1 L with
  | false => exact ⟨0,0,[],false,rfl,rfl,by simp,hz⟩
  | true =>
    obtain ⟨hu,h8,c0,c1⟩:=goodS_up hg
    have h1 : 1 ≤ p0:=by
      unfold goodS at hg
      simp only [Bool.and_eq_true,decide_eq_true_eq] at hg
      exact hg.2.1.1
    rw [if_pos rfl,if_pos rfl,d1,d2,Option.bind_some,Option.bind_some]
    cases hgu : goodU ⟨u0,u1,V⟩ with
    | false => exact ⟨0,0,[],false,rfl,rfl,by simp,hz⟩
    | true =>
      rw [if_pos rfl,if_pos rfl,lOwn_eq hl hs p0 p1 (by omega),iOwn_eq hl hs p0 p1 (by omega),Option.bind_some,Option.bind_some]
      dsimp only
      unfold spec_l16Put.f impl_put.f
      by_cases hc : p1 = 1000000
      · rw [if_pos hc,if_pos (by omega)]
        exact ⟨0,0,[],false,rfl,rfl,by simp,hz⟩
      · rw [if_neg hc,if_pos hl,if_neg (by omega),if_pos hl]
        obtain ⟨t,b,eb,_,_,_,hb⟩:=bs_eq L hl hu u0 (k:=k) (by omega)
        obtain ⟨t',ea,hm⟩ : ∃ t',spec_l16At.f k p0 p1 L u0 = some t' ∧ (t' = -1 ∧ Miss L u0 ∨ Hit L u0 t'):=by
          rcases at_eq L hl p0 p1 u0 (k:=k) (by omega) with ⟨ea,hm⟩ | ⟨u,ea,hh⟩
          · exact ⟨_,ea,Or.inl ⟨rfl,hm⟩⟩
          · exact ⟨_,ea,Or.inr hh⟩
        obtain ⟨M,m1,m2,hum,hml,hmm⟩:=del_both p0 u0 hl h1 hu hb hm
        obtain ⟨q,b2,eq,hq,hlo,hhi,_⟩:=bs_eq M (by omega) hum u0 (k:=k) (by omega)
        have hn:=sAt_eq u0 M 0 q hq hlo hhi
        rw [Nat.zero_add] at hn
        rw [eb,ea,Option.bind_some,Option.bind_some]
        dsimp only
        rw [m1,m2,Option.bind_some,Option.bind_some,eq,Option.bind_some,ownL_eq _ _ hv,ownI_eq _ _ hv,Option.bind_some,Option.bind_some]
        dsimp only
        rw [if_pos (by omega),if_pos ⟨by omega,by omega⟩,Option.bind_some,Option.bind_some,hn,Int.toNat_natCast]
        dsimp only
        obtain ⟨G,hG⟩ : ∃ G,G = M.take q ++ [(⟨⟨u0,u1,V⟩,wrap64 (p1 + 1)⟩ : S60)] ++ M.drop q:=⟨_,rfl⟩
        have gl : G.length ≤ 1048576:=by rw [hG];simp only [List.length_append,List.length_take,List.length_drop,List.length_singleton];omega
        have gs : ∀ x ∈ G,x.f0.f2.length ≤ 1048576:=by
          intro x hx
          rw [hG,List.mem_append,List.mem_append] at hx
          rcases hx with (hx | hx) | hx
          · exact hs x (hmm x (List.mem_of_mem_take hx))
          · rw [List.mem_singleton] at hx
            rw [hx];exact hv
          · exact hs x (hmm x (List.mem_of_mem_drop hx))
        rw [← hG,if_pos rfl,if_pos rfl,lOwn_eq gl gs _ _ (by omega),Option.bind_some]
        exact ⟨_,_,G,true,rfl,rfl,gl,gs⟩
theorem szCachedS_up (l : List S58) (hl : l.length ≤ 1048576) (hs : ∀ x ∈ l,x.f0.f2.length ≤ 9223372036854775807) : ∀ (m i k : Nat) (a r : Int),i + m = l.length → m < k → 0 ≤ a ∧ a ≤ 1048576 →
    laws_szCachedS.l0 k l a (i : Int) = some r → r ≤ 1048576
  | 0,i,k,a,r,h,hk,ha,hr => by
    obtain ⟨k,rfl⟩ : ∃ n,k = n + 1:=⟨k - 1,by omega⟩
    rw [laws_szCachedS.l0,if_neg (by omega)] at hr
    injection hr with hr
    omega
  | m + 1,i,k,a,r,h,hk,ha,hr => by
    obtain ⟨k,rfl⟩ : ∃ n,k = n + 1:=⟨k - 1,by omega⟩
    have hi : i < l.length:=by omega
    obtain ⟨q,hq,hc⟩:=szUnit_eq l[i].f0.f0 l[i].f0.f1 l[i].f0.f2 a ha (hs l[i] (List.getElem_mem hi))
    rw [laws_szCachedS.l0,if_pos (by omega),if_pos (by omega),rdCL hi] at hr
    unfold laws_szCached.f at hr
    rw [hq,Option.bind_some] at hr
    by_cases h0 : q < 0
    · rw [if_pos h0,Option.bind_some,if_pos (by omega)] at hr
      injection hr with hr
      omega
    · rw [if_neg h0,Option.bind_some,if_neg h0,stepNat hi hl] at hr
      exact szCachedS_up l hl hs m (i + 1) k q r (by omega) (by omega) (by omega) hr
theorem szStore_up (a0 a1 : Int) (l : List S58) (h : l.length ≤ 9223372036854775807) (hs : ∀ x ∈ l,x.f0.f2.length ≤ 9223372036854775807) (k : Nat) (hk : 1048577 < k) {r : Int} (hr : laws_szStore.f k a0 a1 l 1048576 = some r) : r ≤ 1048576:=by
  unfold laws_szStore.f laws_szCachedS.f at hr
  rw [wrap64_id (by omega) (by omega)] at hr
  by_cases h0 : 1048576 - (l.length : Int) < 0
  · rw [if_pos h0,Option.bind_some,if_pos (by omega)] at hr
    injection hr with hr
    omega
  · rw [if_neg h0] at hr
    obtain ⟨q,e,_⟩:=szCachedS_loop l (by omega) hs l.length 0 k (1048576 - (l.length : Int)) (by omega) (by omega) ⟨by omega,by omega⟩
    have u:=szCachedS_up l (by omega) hs l.length 0 k (1048576 - (l.length : Int)) q (by omega) (by omega) ⟨by omega,by omega⟩ e
    have e0 : ((0 : Nat) : Int) = 0:=rfl
    rw [e0] at e
    rw [e,Option.bind_some] at hr
    by_cases h1 : q < 0
    · rw [if_pos h1] at hr
      injection hr with hr
      omega
    · rw [if_neg h1] at hr
      injection hr with hr
      omega
theorem FnExactPutUnit : ∀ (a0_0 : Int) (a0_1 : Int) (l0_2 : (List S58)) (a1_0 : Int) (a1_1 : Int) (l1_2 : (List S84)),(Lit.int .i64 a0_0).wf = true → (Lit.int .i64 a0_1).wf = true → l0_2.length ≤ 9223372036854775807 → (∀ x_ ∈ l0_2,(fun s_ : S58 => s_.f0.f2.length ≤ 9223372036854775807) x_) → (Lit.int .i64 a1_0).wf = true → (Lit.int .i64 a1_1).wf = true → l1_2.length ≤ 9223372036854775807 → ∃ k,laws_FnExactPutUnit.f k a0_0 a0_1 l0_2 a1_0 a1_1 l1_2 = some true:=by
  intro a0 a1 l b0 b1 V _ _ h hs _ _ hV
  refine ⟨1099519960000,?_⟩
  obtain ⟨r,hr,hc⟩:=szStore_eq a0 a1 l h hs 1099519960000 (by omega)
  rcases hc with hc | ⟨p,s0,s1⟩
  · unfold laws_FnExactPutUnit.f
    rw [hr,Option.bind_some,if_pos hc]
  obtain ⟨r2,hr2,hc2⟩:=szUnit_eq b0 b1 V r ⟨p,szStore_up a0 a1 l h hs 1099519960000 (by omega) hr⟩ hV
  rcases hc2 with hc2 | ⟨p2,_,v0⟩
  · unfold laws_FnExactPutUnit.f
    rw [hr,Option.bind_some,if_neg (by omega),hr2,Option.bind_some,if_pos hc2]
  · have t0 : (l.map convC).length ≤ 1048576:=by simpa using s0
    have t1 : ∀ x ∈ l.map convC,x.f0.f2.length ≤ 1048576:=by
      intro x hx
      obtain ⟨y,hy,rfl⟩:=List.mem_map.mp hx
      simpa [convC] using s1 y hy
    have w0 : (V.map convM).length ≤ 1048576:=by simpa using v0
    have fv : Fits 1099519960000 V.length:=⟨v0,by omega⟩
    have fw : Fits 1099519960000 (V.map convM).length:=⟨w0,by omega⟩
    obtain ⟨r1,r2',G,r4,e1,e2,g0,g1⟩:=put_both a0 a1 b0 b1 t0 t1 w0 (k:=1099519960000) (by omega)
    have eX : laws_markStore.f 1099519960000 a0 a1 (l.map convC) 1 = some (endC 1 (l.map convC),uptoC 1 (l.map convC)):=by
      unfold laws_markStore.f laws_markCachedS.f
      rw [if_pos t0,markC_eq _ (by omega) _ _ t1 (by omega) (by omega)]
    have eG : laws_markStore.f 1099519960000 r1 r2' G 1 = some (endC 1 G,uptoC 1 G):=by
      unfold laws_markStore.f laws_markCachedS.f
      rw [if_pos g0,markC_eq _ (by omega) _ _ g1 (by omega) (by omega)]
    obtain ⟨bX,bY⟩:=endC_le (l.map convC) 1 t1
    obtain ⟨bG,bH⟩:=endC_le G 1 g1
    have eV : laws_markUnit.f 1099519960000 b0 b1 (V.map convM) (endC 1 (l.map convC)) = some (endC 1 (l.map convC) + 9 * ((V.map convM).length : Int),uptoM (endC 1 (l.map convC)) (V.map convM).length):=by
      unfold laws_markUnit.f
      rw [markM_eq (V.map convM) w0 _ _ (by omega) (by omega) (by omega)]
      rfl
    have hG : laws_heldStore.f 1099519960000 r1 r2' (uptoC 1 G) 1 = some (endC 1 G):=by
      unfold laws_heldStore.f
      rw [heldC_eq G g0 _ (by omega) 1 g1 (by omega) (by omega),Option.bind_some,if_neg (by omega)]
    unfold laws_FnExactPutUnit.f
    rw [hr,Option.bind_some,if_neg (by omega),hr2,Option.bind_some,if_neg (by omega),toStore_eq s0 s1 (by omega),toUnit_eq fv,Option.bind_some,Option.bind_some]
    dsimp only
    rw [e1,e2,Option.bind_some,Option.bind_some]
    dsimp only
    rw [eqStore_eq g0 g1 (by omega),eqStore_eq t0 t1 (by omega),eqUnit_eq fw,Option.bind_some,Option.bind_some,Option.bind_some,if_pos ⟨rfl,rfl,rfl,rfl⟩,eX,Option.bind_some]
    dsimp only
    rw [eV,eG,Option.bind_some,Option.bind_some]
    dsimp only
    rw [hG,Option.bind_some,if_pos ⟨by omega,by omega,rfl⟩]
end Go.Proofs.YtjnifnhpnccpcaaGreat.Pure
