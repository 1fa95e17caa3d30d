/- The law FnExactTouch as a plain function answers true for all arguments (numbers of 64 bits, lists of at most 2^63 - 1 elements). No other condition. -/
import Derived.Test.YtodmelfgkhebjaaUx14
import Derived.Test.YtodmelfgkhebjaaMath
set_option linter.unusedVariables false
set_option linter.unusedSimpArgs false
namespace Go.Proofs.Ytodmelfgkhebjaa.Pure
open Go.RowKit Go.Proofs.Ytodmelfgkhebjaa.U Go.Proofs.YtodmelfgkhebjaaW.PrintWords Go.Proofs.YtodmelfgkhebjaaW.PrintLast Go.Proofs.Ytodmelfgkhebjaa.Math

theorem l1In_eq (a b c : Int) : spec_l1In.f a b c = some (decide (b ≤ a ∧ a ≤ c)) := by
  unfold spec_l1In.f
  by_cases h : b ≤ a <;> simp [h]
theorem within_eq (a b c : Int) : impl_within.f a b c = some (decide (b ≤ a ∧ a ≤ c)) := by
  unfold impl_within.f
  by_cases h : b ≤ a <;> simp [h]
theorem isWord_eq (a : Int) : impl_isWord.f a = some (decide (0 ≤ a ∧ a ≤ 65535)) := by
  unfold impl_isWord.f
  rw [within_eq]
  rfl
theorem lSize_eq (s : Int) : spec_l1Size.f s = some (decide (s = 1 ∨ s = 2)) := by
  unfold spec_l1Size.f
  by_cases h : s = 1
  · simp [h]
  · by_cases h2 : s = 2 <;> simp [h, h2]
theorem isSize_eq (s : Int) : impl_isSize.f s = some (decide (s = 1 ∨ s = 2)) := by
  unfold impl_isSize.f
  by_cases h : s = 1
  · simp [h]
  · by_cases h2 : s = 2 <;> simp [h, h2]
/-- How many values a size has. -/
def top (s : Int) : Int := if s = 1 then 256 else 65536
theorem lTop_1 : spec_l1Top.f 1 = some 256 := by decide +kernel
theorem lTop_2 : spec_l1Top.f 2 = some 65536 := by decide +kernel
theorem limit_1 : impl_limitOf.f 1 = some 256 := by decide +kernel
theorem limit_2 : impl_limitOf.f 2 = some 65536 := by decide +kernel
theorem lTop_eq {s : Int} (h : s = 1 ∨ s = 2) : spec_l1Top.f s = some (top s) := by
  rcases h with rfl | rfl
  · exact lTop_1
  · exact lTop_2
theorem limit_eq {s : Int} (h : s = 1 ∨ s = 2) : impl_limitOf.f s = some (top s) := by
  rcases h with rfl | rfl
  · exact limit_1
  · exact limit_2
theorem top_le {s : Int} : 256 ≤ top s ∧ top s ≤ 65536 := by unfold top; split <;> omega
/-- Whether v is a value of size s. -/
def isVal (s v : Int) : Bool := decide ((s = 1 ∨ s = 2) ∧ 0 ≤ v ∧ v < top s)
theorem isVal_iff {s v : Int} : isVal s v = true ↔ (s = 1 ∨ s = 2) ∧ 0 ≤ v ∧ v < top s := by simp [isVal]
theorem lValue_eq (s v : Int) : spec_l1Value.f s v = some (isVal s v) := by
  unfold spec_l1Value.f isVal
  rw [lSize_eq]
  by_cases h : s = 1 ∨ s = 2
  · have ht := @top_le s
    simp only [Option.bind_some, decide_eq_true_eq, h, if_true, lTop_eq h, l1In_eq, wrap64_id (n := top s - 1) (by omega) (by omega), true_and]
    congr 1
    rw [decide_eq_decide]
    omega
  · simp [h]
theorem isValue_eq (s v : Int) : impl_isValue.f s v = some (isVal s v) := by
  unfold impl_isValue.f isVal
  rw [isSize_eq]
  by_cases h : s = 1 ∨ s = 2
  · have ht := @top_le s
    simp only [Option.bind_some, decide_eq_true_eq, h, if_true, limit_eq h, within_eq, wrap64_id (n := top s - 1) (by omega) (by omega), true_and]
    congr 1
    rw [decide_eq_decide]
    omega
  · simp [h]
theorem stepNat {i n : Nat} (h : i < n) (hn : n ≤ 1048576) : wrap64 ((i : Int) + 1) = ((i + 1 : Nat) : Int) := by
  rw [wrap64_id (by omega) (by omega)]
  omega
theorem rdI {l : List Int} {i : Nat} (h : i < l.length) : rd l (i : Int) = l[i] := by
  simp [rd, List.getElem?_eq_getElem h]
theorem setMap {α β : Type} (f : α → β) (z : β) (l : List α) (i m : Nat) (h : i + (m + 1) = l.length) :
    ((l.take i).map f ++ List.replicate (m + 1) z).set i (f (l[i]'(by omega))) = (l.take (i + 1)).map f ++ List.replicate m z := by
  have hi : i < l.length := by omega
  rw [List.set_append_right _ _ (by simp; omega), List.take_succ_eq_append_getElem hi, List.map_append, List.append_assoc]
  congr 1
  have : i - ((l.take i).map f).length = 0 := by simp; omega
  rw [this, List.replicate_succ]
  rfl
/-- The four lists of a processor are short, and the rounds are enough for them. -/
def Fits (k : Nat) (n : Nat) : Prop := n ≤ 1048576 ∧ n < k
theorem eqInt_loop (l : List Int) (hl : l.length ≤ 1048576) : ∀ (m i k : Nat), i + m = l.length → m < k → laws_eqIntS.l0 k l l (i : Int) = some true
  | 0, i, k, h, hk => by
    obtain ⟨k, rfl⟩ : ∃ n, k = n + 1 := ⟨k - 1, by omega⟩
    rw [laws_eqIntS.l0, if_neg (by omega)]
  | m + 1, i, k, h, hk => by
    obtain ⟨k, rfl⟩ : ∃ n, k = n + 1 := ⟨k - 1, by omega⟩
    have hi : i < l.length := by omega
    rw [laws_eqIntS.l0, if_pos (by omega), if_pos (by omega), if_pos (by omega), if_pos rfl, stepNat hi hl]
    exact eqInt_loop l hl m (i + 1) k (by omega) (by omega)
theorem eqInt_eq {l : List Int} (hl : l.length ≤ 1048576) {k : Nat} (hk : l.length < k) : laws_eqIntS.f k l l = some true := by
  unfold laws_eqIntS.f
  rw [if_pos rfl]
  exact eqInt_loop l hl l.length 0 k (by omega) hk
theorem rdL {l : List S115} {i : Nat} (h : i < l.length) : rd_T115 l (i : Int) = l[i] := by
  simp [rd_T115, h]
theorem rdA {l : List S109} {i : Nat} (h : i < l.length) : rd_T109 l (i : Int) = l[i] := by
  simp [rd_T109, h]
/-- What the copy of one access is. -/
def convA (x : S115) : S109 := ⟨x.f0, x.f1, x.f2, x.f3, x.f4⟩
theorem toInt_loop (l : List Int) (hl : l.length ≤ 1048576) : ∀ (m i k : Nat), i + m = l.length → m < k →
    laws_toIntS.l0 k l ((l.take i).map id ++ List.replicate m 0) (i : Int) = some l
  | 0, i, k, h, hk => by
    obtain ⟨k, rfl⟩ : ∃ n, k = n + 1 := ⟨k - 1, by omega⟩
    rw [laws_toIntS.l0, if_neg (by omega), List.take_of_length_le (by omega)]
    simp
  | m + 1, i, k, h, hk => by
    obtain ⟨k, rfl⟩ : ∃ n, k = n + 1 := ⟨k - 1, by omega⟩
    have hi : i < l.length := by omega
    rw [laws_toIntS.l0, if_pos (by omega), if_pos (by omega), rdI hi, if_pos (by simp; omega), stepNat hi hl, Int.toNat_natCast]
    have := setMap id (0 : Int) l i m h
    simp only [id] at this
    change laws_toIntS.l0 k l (((l.take i).map id ++ List.replicate (m + 1) 0).set i l[i]) ((i + 1 : Nat) : Int) = _
    rw [this]
    exact toInt_loop l hl m (i + 1) k (by omega) (by omega)
theorem toInt_eq {l : List Int} (hl : l.length ≤ 1048576) {k : Nat} (hk : l.length < k) : laws_toIntS.f k l = some l := by
  unfold laws_toIntS.f
  rw [if_pos (by omega), if_pos (by rw [Int.toNat_natCast]; omega)]
  have := toInt_loop l hl l.length 0 k (by omega) hk
  simpa using this
theorem toAcc_loop (l : List S115) (hl : l.length ≤ 1048576) : ∀ (m i k : Nat), i + m = l.length → m < k →
    laws_toAccessS.l0 k l ((l.take i).map convA ++ List.replicate m z109) (i : Int) = some (l.map convA)
  | 0, i, k, h, hk => by
    obtain ⟨k, rfl⟩ : ∃ n, k = n + 1 := ⟨k - 1, by omega⟩
    rw [laws_toAccessS.l0, if_neg (by omega), List.take_of_length_le (by omega)]
    simp
  | m + 1, i, k, h, hk => by
    obtain ⟨k, rfl⟩ : ∃ n, k = n + 1 := ⟨k - 1, by omega⟩
    have hi : i < l.length := by omega
    rw [laws_toAccessS.l0, if_pos (by omega), if_pos (by omega), rdL hi]
    unfold laws_toAccess.f
    rw [Option.bind_some, if_pos (by simp; omega), stepNat hi hl, Int.toNat_natCast]
    change laws_toAccessS.l0 k l (((l.take i).map convA ++ List.replicate (m + 1) z109).set i (convA l[i])) ((i + 1 : Nat) : Int) = _
    rw [setMap convA z109 l i m h]
    exact toAcc_loop l hl m (i + 1) k (by omega) (by omega)
theorem toAcc_eq {l : List S115} (hl : l.length ≤ 1048576) {k : Nat} (hk : l.length < k) : laws_toAccessS.f k l = some (l.map convA) := by
  unfold laws_toAccessS.f
  rw [if_pos (by omega), if_pos (by rw [Int.toNat_natCast]; omega)]
  have := toAcc_loop l hl l.length 0 k (by omega) hk
  simpa using this
theorem eqAcc_loop (l : List S109) (hl : l.length ≤ 1048576) : ∀ (m i k : Nat), i + m = l.length → m < k → laws_eqAccessS.l0 k l l (i : Int) = some true
  | 0, i, k, h, hk => by
    obtain ⟨k, rfl⟩ : ∃ n, k = n + 1 := ⟨k - 1, by omega⟩
    rw [laws_eqAccessS.l0, if_neg (by omega)]
  | m + 1, i, k, h, hk => by
    obtain ⟨k, rfl⟩ : ∃ n, k = n + 1 := ⟨k - 1, by omega⟩
    have hi : i < l.length := by omega
    have hs : ∀ a b c d e, laws_eqAccess.f a b c d e a b c d e = some true := fun a b c d e => by simp [laws_eqAccess.f]
    rw [laws_eqAccessS.l0, if_pos (by omega), if_pos (by omega), if_pos (by omega), hs, Option.bind_some, if_pos rfl, stepNat hi hl]
    exact eqAcc_loop l hl m (i + 1) k (by omega) (by omega)
theorem eqAcc_eq {l : List S109} (hl : l.length ≤ 1048576) {k : Nat} (hk : l.length < k) : laws_eqAccessS.f k l l = some true := by
  unfold laws_eqAccessS.f
  rw [if_pos rfl]
  exact eqAcc_loop l hl l.length 0 k (by omega) hk
theorem szOne (l : List Int) (a : Int) (ha : 0 ≤ a ∧ a ≤ 1048576) (h : l.length ≤ 9223372036854775807) : ∃ r, laws_szIntS.f l a = some r ∧ (r < 0 ∨ (0 ≤ r ∧ r ≤ 1048576 ∧ l.length ≤ 1048576)) := by
  unfold laws_szIntS.f
  rw [wrap64_id (by omega) (by omega)]
  by_cases h : a - (l.length : Int) < 0
  · rw [if_pos h]
    exact ⟨-1, rfl, Or.inl (by omega)⟩
  · rw [if_neg h]
    exact ⟨_, rfl, Or.inr (by omega)⟩
theorem szAcc (l : List S115) (a : Int) (ha : 0 ≤ a ∧ a ≤ 1048576) (h : l.length ≤ 9223372036854775807) : ∃ r, laws_szAccessS.f l a = some r ∧ (r < 0 ∨ (0 ≤ r ∧ r ≤ 1048576 ∧ l.length ≤ 1048576)) := by
  unfold laws_szAccessS.f
  rw [wrap64_id (by omega) (by omega)]
  by_cases h : a - (l.length : Int) < 0
  · rw [if_pos h]
    exact ⟨-1, rfl, Or.inl (by omega)⟩
  · rw [if_neg h]
    exact ⟨_, rfl, Or.inr (by omega)⟩
/-- What a word, a byte, an access is. -/
def isW (x : Int) : Bool := decide (0 ≤ x ∧ x ≤ 65535)
def isBy (x : Int) : Bool := decide (0 ≤ x ∧ x ≤ 255)
def goodAcc (x : S109) : Bool := decide (1 ≤ x.f0 ∧ x.f0 ≤ 3) && (isVal x.f1 x.f3 && (decide (0 ≤ x.f2 ∧ x.f2 ≤ 65535) && (decide (0 ≤ x.f4 ∧ x.f4 ≤ 3) && (x.f0 != 3 || x.f4 != 0))))
theorem lAcc_eq (x : S109) : spec_l4Access.f x.f0 x.f1 x.f2 x.f3 x.f4 = some (goodAcc x) := by
  unfold spec_l4Access.f spec_l4Addr.f goodAcc
  simp only [l1In_eq, lValue_eq, Option.bind_some]
  cases decide (1 ≤ x.f0 ∧ x.f0 ≤ 3) <;> cases isVal x.f1 x.f3 <;> cases decide (0 ≤ x.f2 ∧ x.f2 ≤ 65535) <;> cases decide (0 ≤ x.f4 ∧ x.f4 ≤ 3) <;> by_cases h : x.f0 = 3 <;> simp [h]
theorem iAcc_eq (x : S109) : impl_isAccess.f x.f0 x.f1 x.f2 x.f3 x.f4 = some (goodAcc x) := by
  unfold impl_isAccess.f goodAcc
  simp only [within_eq, isWord_eq, isValue_eq, Option.bind_some]
  cases decide (1 ≤ x.f0 ∧ x.f0 ≤ 3) <;> cases isVal x.f1 x.f3 <;> cases decide (0 ≤ x.f2 ∧ x.f2 ≤ 65535) <;> cases decide (0 ≤ x.f4 ∧ x.f4 ≤ 3) <;> by_cases h : x.f0 = 3 <;> simp [h]
  all_goals simp [bne]
theorem lBytes_loop (l : List Int) (hl : l.length ≤ 1048576) : ∀ (m i k : Nat), i + m = l.length → m < k →
    spec_l4Bytes.l0 k l (l.length : Int) (i : Int) = some ((l.drop i).all isBy)
  | 0, i, k, h, hk => by
    obtain ⟨k, rfl⟩ : ∃ n, k = n + 1 := ⟨k - 1, by omega⟩
    rw [spec_l4Bytes.l0, if_neg (by omega), List.drop_of_length_le (by omega)]
    rfl
  | m + 1, i, k, h, hk => by
    obtain ⟨k, rfl⟩ : ∃ n, k = n + 1 := ⟨k - 1, by omega⟩
    have hi : i < l.length := by omega
    rw [spec_l4Bytes.l0, if_pos (by omega), if_pos (by omega), if_pos (by omega), rdI hi, l1In_eq, Option.bind_some, List.drop_eq_getElem_cons hi, List.all_cons, stepNat hi hl]
    change (if isBy l[i] = true then _ else _) = _
    cases isBy l[i] with
    | true =>
      rw [if_pos rfl, Bool.true_and]
      exact lBytes_loop l hl m (i + 1) k (by omega) (by omega)
    | false => rfl
theorem lBytes_eq {l : List Int} {k : Nat} (h : Fits k l.length) : spec_l4Bytes.f k l = some (l.all isBy) := by
  unfold spec_l4Bytes.f
  have := lBytes_loop l h.1 l.length 0 k (by omega) h.2
  simpa using this
def goodBus (l8 : List Int) (l9 : List S109) : Bool := l9.all goodAcc && (((l8.length : Int) == 512) && (l8.all isBy && decide ((l9.length : Int) ≤ 400)))
theorem lBus_loop (l8 : List Int) (hb : l8.length ≤ 1048576) (l : List S109) (hl : l.length ≤ 1048576) : ∀ (m i k : Nat), i + m = l.length → l8.length + 1 + m < k →
    spec_GoodBus.l0 k l (l.length : Int) (i : Int) l8 l = some ((l.drop i).all goodAcc && (((l8.length : Int) == 512) && (l8.all isBy && decide ((l.length : Int) ≤ 400))))
  | 0, i, k, h, hk => by
    obtain ⟨k, rfl⟩ : ∃ n, k = n + 1 := ⟨k - 1, by omega⟩
    have h8' : Fits k l8.length := ⟨hb, by omega⟩
    rw [spec_GoodBus.l0, if_neg (by omega), List.drop_of_length_le (by omega), lBytes_eq h8', Option.bind_some]
    by_cases hc : (l8.length : Int) = 512 <;> cases l8.all isBy <;> simp [hc]
  | m + 1, i, k, h, hk => by
    obtain ⟨k, rfl⟩ : ∃ n, k = n + 1 := ⟨k - 1, by omega⟩
    have hi : i < l.length := by omega
    rw [spec_GoodBus.l0, if_pos (by omega), if_pos (by omega), if_pos (by omega), rdA hi, lAcc_eq, Option.bind_some, List.drop_eq_getElem_cons hi, List.all_cons, stepNat hi hl]
    cases goodAcc l[i] with
    | true =>
      rw [if_pos rfl, Bool.true_and]
      exact lBus_loop l8 hb l hl m (i + 1) k (by omega) (by omega)
    | false => rfl
theorem lBus_eq {l8 : List Int} {l9 : List S109} {k : Nat} (h : l8.length ≤ 1048576 ∧ l9.length ≤ 1048576 ∧ l8.length + l9.length + 2 < k) : spec_GoodBus.f k l8 l9 = some (goodBus l8 l9) := by
  unfold spec_GoodBus.f
  obtain ⟨ha, hb, hc⟩ := h
  have := lBus_loop l8 ha l9 hb l9.length 0 k (by omega) (by omega)
  simpa [goodBus] using this
theorem iBy_loop (l : List Int) (hl : l.length ≤ 1048576) : ∀ (m i k : Nat), i + m = l.length → m < k →
    ∃ r, slices_IndexFunc_121_g96.l0 k l (l.length : Int) (i : Int) = some r ∧ decide (r ≥ 0) = !(l.drop i).all isBy
  | 0, i, k, h, hk => by
    obtain ⟨k, rfl⟩ : ∃ n, k = n + 1 := ⟨k - 1, by omega⟩
    refine ⟨-1, ?_, ?_⟩
    · rw [slices_IndexFunc_121_g96.l0, if_neg (by omega)]
    · rw [List.drop_of_length_le (by omega)]
      rfl
  | m + 1, i, k, h, hk => by
    obtain ⟨k, rfl⟩ : ∃ n, k = n + 1 := ⟨k - 1, by omega⟩
    have hi : i < l.length := by omega
    rw [slices_IndexFunc_121_g96.l0, if_pos (by omega), if_pos (by omega), if_pos (by omega), rdI hi, impl_GoodBus_1.f, within_eq, Option.bind_some, Option.bind_some, List.drop_eq_getElem_cons hi, List.all_cons, stepNat hi hl]
    change ∃ r, (if (!isBy l[i]) = true then _ else _) = some r ∧ _
    cases isBy l[i] with
    | true =>
      rw [if_neg (by simp), Bool.true_and]
      exact iBy_loop l hl m (i + 1) k (by omega) (by omega)
    | false => exact ⟨(i : Int), rfl, by simp⟩
theorem iBy_eq {l : List Int} {k : Nat} (h : Fits k l.length) : slices_ContainsFunc_95_g96.f k l = some (!l.all isBy) := by
  unfold slices_ContainsFunc_95_g96.f slices_IndexFunc_121_g96.f
  obtain ⟨r, h1, h2⟩ := iBy_loop l h.1 l.length 0 k (by omega) h.2
  rw [show ((0 : Nat) : Int) = 0 from rfl] at h1
  rw [h1, Option.bind_some, h2]
  rfl
theorem iAc_loop (l : List S109) (hl : l.length ≤ 1048576) : ∀ (m i k : Nat), i + m = l.length → m < k →
    ∃ r, slices_IndexFunc_122_g98.l0 k l (l.length : Int) (i : Int) = some r ∧ decide (r ≥ 0) = !(l.drop i).all goodAcc
  | 0, i, k, h, hk => by
    obtain ⟨k, rfl⟩ : ∃ n, k = n + 1 := ⟨k - 1, by omega⟩
    refine ⟨-1, ?_, ?_⟩
    · rw [slices_IndexFunc_122_g98.l0, if_neg (by omega)]
    · rw [List.drop_of_length_le (by omega)]
      rfl
  | m + 1, i, k, h, hk => by
    obtain ⟨k, rfl⟩ : ∃ n, k = n + 1 := ⟨k - 1, by omega⟩
    have hi : i < l.length := by omega
    rw [slices_IndexFunc_122_g98.l0, if_pos (by omega), if_pos (by omega), if_pos (by omega), rdA hi, impl_GoodBus_2.f, iAcc_eq, Option.bind_some, Option.bind_some, List.drop_eq_getElem_cons hi, List.all_cons, stepNat hi hl]
    change ∃ r, (if (!goodAcc l[i]) = true then _ else _) = some r ∧ _
    cases goodAcc l[i] with
    | true =>
      rw [if_neg (by simp), Bool.true_and]
      exact iAc_loop l hl m (i + 1) k (by omega) (by omega)
    | false => exact ⟨(i : Int), rfl, by simp⟩
theorem iAc_eq {l : List S109} {k : Nat} (h : Fits k l.length) : slices_ContainsFunc_97_g98.f k l = some (!l.all goodAcc) := by
  unfold slices_ContainsFunc_97_g98.f slices_IndexFunc_122_g98.f
  obtain ⟨r, h1, h2⟩ := iAc_loop l h.1 l.length 0 k (by omega) h.2
  rw [show ((0 : Nat) : Int) = 0 from rfl] at h1
  rw [h1, Option.bind_some, h2]
  rfl
theorem iBus_eq {l8 : List Int} {l9 : List S109} {k : Nat} (h8 : Fits k l8.length) (h9 : Fits k l9.length) : impl_GoodBus.f k l8 l9 = some (goodBus l8 l9) := by
  unfold impl_GoodBus.f goodBus
  rw [iBy_eq h8, iAc_eq h9]
  simp only [Option.bind_some]
  by_cases h1 : (l8.length : Int) = 512 <;> by_cases h2 : (l9.length : Int) ≤ 400 <;> cases l8.all isBy <;> cases l9.all goodAcc <;> simp [h1, h2]
/-- The numbers a, a + 1, .. -/
def upto (a : Int) : Nat → List Int
  | 0 => []
  | n + 1 => a :: upto (a + 1) n
theorem upto_length (a : Int) (n : Nat) : (upto a n).length = n := by
  induction n generalizing a with
  | zero => rfl
  | succ n ih => simp [upto, ih]
theorem rd_at (l : List Int) (i : Nat) (h : i < l.length) : rd l (i : Int) = l[i] := by
  simp [rd, List.getElem?_eq_getElem h]
theorem eqIntS_l0 (l : List Int) (hl : l.length ≤ 4611686018427387904) : ∀ (d k i : Nat), i + d = l.length → d < k → laws_eqIntS.l0 k l l (i : Int) = some true := by
  intro d
  induction d with
  | zero =>
    intro k i hi hk
    obtain ⟨k, rfl⟩ : ∃ m, k = m + 1 := ⟨k - 1, by omega⟩
    simp only [laws_eqIntS.l0]
    rw [if_neg (by omega)]
  | succ d ih =>
    intro k i hi hk
    obtain ⟨k, rfl⟩ : ∃ m, k = m + 1 := ⟨k - 1, by omega⟩
    simp only [laws_eqIntS.l0]
    rw [if_pos (by omega), if_pos (by omega), if_pos (by omega), if_pos trivial, wrap64_id (by omega) (by omega), show ((i : Int) + 1) = ((i + 1 : Nat) : Int) by omega]
    exact ih k (i + 1) (by omega) (by omega)
theorem eqIntS_self (l : List Int) (hl : l.length ≤ 4611686018427387904) (k : Nat) (hk : l.length < k) : laws_eqIntS.f k l l = some true := by
  unfold laws_eqIntS.f
  rw [if_pos rfl]
  exact eqIntS_l0 l hl l.length k 0 (by omega) hk
theorem markIntS_l0 (n : Nat) (hn : n ≤ 4611686018427387904) : ∀ (d k i : Nat) (a : Int) (x : List Int), x.length = n → i + d = n → d < k → 0 ≤ a → a ≤ 4611686018427387904 - (d : Int) →
    laws_markIntS.l0 k x a (i : Int) = some (a + (d : Int), x.take i ++ upto a d) := by
  intro d
  induction d with
  | zero =>
    intro k i a x hx hi hk _ _
    obtain ⟨k, rfl⟩ : ∃ m, k = m + 1 := ⟨k - 1, by omega⟩
    simp only [laws_markIntS.l0]
    rw [if_neg (by omega)]
    simp [upto, List.take_of_length_le (show x.length ≤ i by omega)]
  | succ d ih =>
    intro k i a x hx hi hk ha hb
    obtain ⟨k, rfl⟩ : ∃ m, k = m + 1 := ⟨k - 1, by omega⟩
    simp only [laws_markIntS.l0]
    rw [if_pos (by omega), if_pos (by omega), wrap64_id (n := a + 1) (by omega) (by omega), wrap64_id (by omega) (by omega)]
    have hset : (x.set i a).take (i + 1) = x.take i ++ [a] := by
      rw [List.take_succ_eq_append_getElem (by simp; omega), List.take_set, List.set_eq_of_length_le (by simp; omega)]
      simp
    have := ih k (i + 1) (a + 1) (x.set i a) (by simp [hx]) (by omega) (by omega) (by omega) (by omega)
    rw [hset] at this
    simp only [Int.toNat_natCast]
    rw [show ((i : Int) + 1) = ((i + 1 : Nat) : Int) by omega, this]
    simp [upto]
    omega
theorem markIntS_eq (x : List Int) (a : Int) (k : Nat) (hk : x.length < k) (ha : 0 ≤ a) (hb : a + (x.length : Int) ≤ 4611686018427387904) :
    laws_markIntS.f k x a = some (a + (x.length : Int), upto a x.length) := by
  unfold laws_markIntS.f
  have := markIntS_l0 x.length (by omega) x.length k 0 a x rfl (by omega) hk ha (by omega)
  simpa using this
theorem heldIntS_l0 (x : List Int) (hx : x.length ≤ 4611686018427387904) : ∀ (d k i : Nat) (a : Int), x.drop i = upto a d → i + d = x.length → d < k → 0 ≤ a → a ≤ 4611686018427387904 - (d : Int) →
    laws_heldIntS.l0 k x a (i : Int) = some (a + (d : Int)) := by
  intro d
  induction d with
  | zero =>
    intro k i a hd hi hk _ _
    obtain ⟨k, rfl⟩ : ∃ m, k = m + 1 := ⟨k - 1, by omega⟩
    simp only [laws_heldIntS.l0]
    rw [if_neg (by omega)]
    simp
  | succ d ih =>
    intro k i a hd hi hk ha hb
    obtain ⟨k, rfl⟩ : ∃ m, k = m + 1 := ⟨k - 1, by omega⟩
    have hlt : i < x.length := by omega
    rw [List.drop_eq_getElem_cons hlt] at hd
    simp only [upto, List.cons.injEq] at hd
    simp only [laws_heldIntS.l0]
    rw [if_pos (by omega), if_pos (by omega), wrap64_id (n := a + 1) (by omega) (by omega), wrap64_id (by omega) (by omega), rd_at x i hlt, if_pos hd.1]
    have := ih k (i + 1) (a + 1) hd.2 (by omega) (by omega) (by omega) (by omega)
    rw [show ((i : Int) + 1) = ((i + 1 : Nat) : Int) by omega, this]
    congr 1
    omega
theorem heldIntS_upto (n : Nat) (a : Int) (k : Nat) (hk : n < k) (ha : 0 ≤ a) (hb : a + (n : Int) ≤ 4611686018427387904) :
    laws_heldIntS.f k (upto a n) a = some (a + (n : Int)) := by
  unfold laws_heldIntS.f
  exact heldIntS_l0 (upto a n) (by rw [upto_length]; omega) n k 0 a rfl (by rw [upto_length]; omega) hk ha (by omega)
def uptoA (a : Int) : Nat → List S109
  | 0 => []
  | n + 1 => ⟨a, a + 1, a + 1 + 1, a + 1 + 1 + 1, a + 1 + 1 + 1 + 1⟩ :: uptoA (a + 5) n
theorem uptoA_length (a : Int) (n : Nat) : (uptoA a n).length = n := by
  induction n generalizing a with
  | zero => rfl
  | succ n ih => simp [uptoA, ih]
theorem rdSetA {x : List S109} {i : Nat} (e : S109) (h : i < x.length) : rd_T109 (x.set i e) (i : Int) = e := by
  rw [rdA (by simpa using h)]
  simp
theorem w5 {a : Int} (h0 : 0 ≤ a) (h1 : a ≤ 4611686018427387904) : wrap64 (a + 1) = a + 1 := wrap64_id (by omega) (by omega)
theorem markA_l0 (n : Nat) (hn : n ≤ 1048576) : ∀ (d k i : Nat) (a : Int) (x : List S109), x.length = n → i + d = n → d < k → 0 ≤ a → a + 5 * (d : Int) ≤ 4611686018427387904 →
    laws_markAccessS.l0 k x a (i : Int) = some (a + 5 * (d : Int), x.take i ++ uptoA a d) := by
  intro d
  induction d with
  | zero =>
    intro k i a x hx hi hk _ _
    obtain ⟨k, rfl⟩ : ∃ m, k = m + 1 := ⟨k - 1, by omega⟩
    rw [laws_markAccessS.l0, if_neg (by omega)]
    simp [uptoA, List.take_of_length_le (show x.length ≤ i by omega)]
  | succ d ih =>
    intro k i a x hx hi hk ha hb
    obtain ⟨k, rfl⟩ : ∃ m, k = m + 1 := ⟨k - 1, by omega⟩
    have hlt : i < x.length := by omega
    rw [laws_markAccessS.l0, if_pos (by omega), if_pos (by omega)]
    simp only [Option.bind_some, Int.toNat_natCast, List.set_set, rdSetA _ hlt]
    rw [w5 ha (by omega), w5 (a := a + 1) (by omega) (by omega), w5 (a := a + 1 + 1) (by omega) (by omega), w5 (a := a + 1 + 1 + 1) (by omega) (by omega), w5 (a := a + 1 + 1 + 1 + 1) (by omega) (by omega), stepNat (n := n) (by omega) hn]
    have hset : ∀ e : S109, (x.set i e).take (i + 1) = x.take i ++ [e] := by
      intro e
      rw [List.take_succ_eq_append_getElem (by simp; omega), List.take_set, List.set_eq_of_length_le (by simp; omega)]
      simp
    have := ih k (i + 1) (a + 1 + 1 + 1 + 1 + 1) (x.set i ⟨a, a + 1, a + 1 + 1, a + 1 + 1 + 1, a + 1 + 1 + 1 + 1⟩) (by simp [hx]) (by omega) (by omega) (by omega) (by omega)
    rw [this, hset, show a + 1 + 1 + 1 + 1 + 1 = a + 5 from by omega]
    simp [uptoA]
    omega
theorem markA_eq (x : List S109) (hx : x.length ≤ 1048576) (a : Int) (k : Nat) (hk : x.length < k) (ha : 0 ≤ a) (hb : a + 5 * (x.length : Int) ≤ 4611686018427387904) :
    laws_markAccessS.f k x a = some (a + 5 * (x.length : Int), uptoA a x.length) := by
  unfold laws_markAccessS.f
  have := markA_l0 x.length hx x.length k 0 a x rfl (by omega) hk ha hb
  simpa using this
theorem heldA_l0 (x : List S109) (hx : x.length ≤ 1048576) : ∀ (d k i : Nat) (a : Int), x.drop i = uptoA a d → i + d = x.length → d < k → 0 ≤ a → a + 5 * (d : Int) ≤ 4611686018427387904 →
    laws_heldAccessS.l0 k x a (i : Int) = some (a + 5 * (d : Int)) := by
  intro d
  induction d with
  | zero =>
    intro k i a hd hi hk _ _
    obtain ⟨k, rfl⟩ : ∃ m, k = m + 1 := ⟨k - 1, by omega⟩
    rw [laws_heldAccessS.l0, if_neg (by omega)]
    simp
  | succ d ih =>
    intro k i a hd hi hk ha hb
    obtain ⟨k, rfl⟩ : ∃ m, k = m + 1 := ⟨k - 1, by omega⟩
    have hlt : i < x.length := by omega
    rw [List.drop_eq_getElem_cons hlt] at hd
    simp only [uptoA, List.cons.injEq] at hd
    rw [laws_heldAccessS.l0, if_pos (by omega), if_pos (by omega), rdA hlt, hd.1]
    simp only
    rw [w5 ha (by omega), w5 (a := a + 1) (by omega) (by omega), w5 (a := a + 1 + 1) (by omega) (by omega), w5 (a := a + 1 + 1 + 1) (by omega) (by omega), w5 (a := a + 1 + 1 + 1 + 1) (by omega) (by omega), stepNat hlt hx]
    simp only [if_true]
    rw [show a + 1 + 1 + 1 + 1 + 1 = a + 5 from by omega, ih k (i + 1) (a + 5) hd.2 (by omega) (by omega) (by omega) (by omega)]
    congr 1
    omega
theorem heldA_eq (n : Nat) (hn : n ≤ 1048576) (a : Int) (k : Nat) (hk : n < k) (ha : 0 ≤ a) (hb : a + 5 * (n : Int) ≤ 4611686018427387904) :
    laws_heldAccessS.f k (uptoA a n) a = some (a + 5 * (n : Int)) := by
  unfold laws_heldAccessS.f
  exact heldA_l0 (uptoA a n) (by rw [uptoA_length]; omega) n k 0 a rfl (by rw [uptoA_length]; omega) hk ha hb
/-- What an address is, and what an access is told. -/
def kindA (a : Int) : Int := if (448 ≤ a ∧ a ≤ 495) ∨ 512 ≤ a then 1 else if 384 ≤ a ∧ a ≤ 447 then 3 else 0
def codeA (kind size a : Int) : Int := if size = 2 ∧ a % 2 = 1 then 2 else if kindA a = 1 ∨ kindA (a + size - 1) = 1 then 1 else if kind = 2 ∧ (kindA a = 3 ∨ kindA (a + size - 1) = 3) then 3 else 0
theorem lKind_eq {k : Nat} (hk : 0 < k) (a : Int) : spec_l4Kind.f k a = some (kindA a) := by
  obtain ⟨k, rfl⟩ : ∃ n, k = n + 1 := ⟨k - 1, by omega⟩
  unfold spec_l4Kind.f kindA
  rw [l1In_eq]
  by_cases h1 : a ≥ 512
  · rw [if_pos h1, spec_l4Kind.j0, if_pos (decide_eq_true h1), if_pos (Or.inr h1)]
  rw [if_neg h1, Option.bind_some, spec_l4Kind.j0]
  by_cases h2 : 448 ≤ a ∧ a ≤ 495
  · rw [if_pos (decide_eq_true h2), if_pos (Or.inl h2)]
  rw [if_neg (by simpa using h2), if_neg (by rintro (h | h) <;> omega), l1In_eq, Option.bind_some]
  by_cases h3 : 384 ≤ a ∧ a ≤ 447
  · rw [if_pos (decide_eq_true h3), if_pos h3]
  · rw [if_neg (by simpa using h3), if_neg h3]
theorem iKind_eq {k : Nat} (hk : 0 < k) (a : Int) : impl_kindOf.f k a = some (kindA a) := by
  obtain ⟨k, rfl⟩ : ∃ n, k = n + 1 := ⟨k - 1, by omega⟩
  unfold impl_kindOf.f kindA
  rw [within_eq, Option.bind_some]
  by_cases h2 : 448 ≤ a ∧ a ≤ 495
  · rw [if_pos (decide_eq_true h2), impl_kindOf.j0, if_pos rfl, if_pos (Or.inl h2)]
  rw [if_neg (by simpa using h2), impl_kindOf.j0]
  by_cases h1 : a ≥ 512
  · rw [if_pos (decide_eq_true h1), if_pos (Or.inr h1)]
  rw [if_neg (by simpa using h1), if_neg (by rintro (h | h) <;> omega), within_eq, Option.bind_some]
  by_cases h3 : 384 ≤ a ∧ a ≤ 447
  · rw [if_pos (decide_eq_true h3), if_pos h3]
  · rw [if_neg (by simpa using h3), if_neg h3]
theorem kindA_cases (a : Int) : kindA a = 0 ∨ kindA a = 1 ∨ kindA a = 3 := by
  unfold kindA
  split
  · exact Or.inr (Or.inl rfl)
  · split
    · exact Or.inr (Or.inr rfl)
    · exact Or.inl rfl
theorem lastW {size a : Int} (hs : size = 1 ∨ size = 2) (ha : 0 ≤ a ∧ a ≤ 65535) : wrap64 (wrap64 (a + size) - 1) = a + size - 1 := by
  rw [wrap64_id (n := a + size) (by omega) (by omega), wrap64_id (by omega) (by omega)]
theorem lCode_eq {k : Nat} (hk : 3 ≤ k) (kind : Int) {size a : Int} (hs : size = 1 ∨ size = 2) (ha : 0 ≤ a ∧ a ≤ 65535) : spec_l4Code.f k kind size a = some (codeA kind size a) := by
  obtain ⟨k, rfl⟩ : ∃ n, k = n + 2 := ⟨k - 2, by omega⟩
  have h0 : ∀ b : Bool, spec_l4Code.j0 (k + 2) kind a (a + size - 1) b = some (if b = true then 2 else if kindA a = 1 ∨ kindA (a + size - 1) = 1 then 1 else if kind = 2 ∧ (kindA a = 3 ∨ kindA (a + size - 1) = 3) then 3 else 0) := by
    intro b
    rw [spec_l4Code.j0]
    cases b with
    | true => rfl
    | false =>
      simp only [Bool.false_eq_true, if_false]
      rw [lKind_eq (by omega), Option.bind_some, lKind_eq (by omega)]
      by_cases h1 : kindA a = 1
      · rw [if_pos h1, spec_l4Code.j1, if_pos rfl, if_pos (Or.inl h1)]
      rw [if_neg h1, Option.bind_some, spec_l4Code.j1]
      by_cases h2 : kindA (a + size - 1) = 1
      · rw [if_pos (show (kindA (a + size - 1) == 1) = true from by simp [h2]), if_pos (Or.inr h2)]
      rw [if_neg (show ¬ ((kindA (a + size - 1) == 1) = true) from by simp [h2]), if_neg (show ¬ (kindA a = 1 ∨ kindA (a + size - 1) = 1) from fun h => h.elim h1 h2)]
      by_cases h3 : kind = 2
      · rw [if_pos h3, lKind_eq (by omega), Option.bind_some, lKind_eq (by omega)]
        by_cases h4 : kindA a = 3
        · rw [if_pos h4, if_pos ⟨h3, Or.inl h4⟩]
        rw [if_neg h4, Option.bind_some]
        by_cases h5 : kindA (a + size - 1) = 3
        · rw [if_pos h5, if_pos ⟨h3, Or.inr h5⟩]
        · rw [if_neg h5, if_neg (show ¬ (kind = 2 ∧ (kindA a = 3 ∨ kindA (a + size - 1) = 3)) from fun h => h.2.elim h4 h5)]
      · rw [if_neg h3, if_neg (fun h => h3 h.1)]
  unfold spec_l4Code.f codeA
  rw [lastW hs ha, h0, h0, and_1]
  rcases hs with rfl | rfl
  · simp
  · by_cases h : a % 2 = 1 <;> simp [h]
theorem iCode_eq {k : Nat} (hk : 3 ≤ k) (kind : Int) {size a : Int} (hs : size = 1 ∨ size = 2) (ha : 0 ≤ a ∧ a ≤ 65535) : impl_codeOf.f k kind size a = some (codeA kind size a) := by
  obtain ⟨k, rfl⟩ : ∃ n, k = n + 2 := ⟨k - 2, by omega⟩
  have h0 : ∀ b : Bool, impl_codeOf.j0 (k + 2) kind size a b = some (if b = true then 2 else if kindA a = 1 ∨ kindA (a + size - 1) = 1 then 1 else if kind = 2 ∧ (kindA a = 3 ∨ kindA (a + size - 1) = 3) then 3 else 0) := by
    intro b
    rw [impl_codeOf.j0]
    cases b with
    | true => rfl
    | false =>
      simp only [Bool.false_eq_true, if_false]
      rw [iKind_eq (by omega), Option.bind_some, lastW hs ha, iKind_eq (by omega), Option.bind_some]
      have hj : ∀ c : Bool, impl_codeOf.j1 (k + 1) kind (kindA a) (kindA (a + size - 1)) c = some (if c = true then 1 else if kind = 2 ∧ (kindA a = 3 ∨ kindA (a + size - 1) = 3) then 3 else 0) := by
        intro c
        rw [impl_codeOf.j1]
        cases c with
        | true => rfl
        | false =>
          simp only [Bool.false_eq_true, if_false]
          by_cases h3 : kind = 2
          · rw [if_pos h3]
            by_cases h4 : kindA a = 3
            · rw [if_pos h4, if_pos ⟨h3, Or.inl h4⟩]
            rw [if_neg h4]
            by_cases h5 : kindA (a + size - 1) = 3
            · rw [if_pos h5, if_pos ⟨h3, Or.inr h5⟩]
            · rw [if_neg h5, if_neg (show ¬ (kind = 2 ∧ (kindA a = 3 ∨ kindA (a + size - 1) = 3)) from fun h => h.2.elim h4 h5)]
          · rw [if_neg h3, if_neg (fun h => h3 h.1)]
      by_cases h1 : kindA a = 1
      · rw [if_pos h1, hj, if_pos rfl, if_pos (Or.inl h1)]
      rw [if_neg h1, hj]
      by_cases h2 : kindA (a + size - 1) = 1
      · rw [if_pos (show (kindA (a + size - 1) == 1) = true from by simp [h2]), if_pos (Or.inr h2)]
      · rw [if_neg (show ¬ ((kindA (a + size - 1) == 1) = true) from by simp [h2]), if_neg (show ¬ (kindA a = 1 ∨ kindA (a + size - 1) = 1) from fun h => h.elim h1 h2)]
  unfold impl_codeOf.f codeA
  rw [h0, h0]
  have ht : Int.tmod a 2 = a % 2 := Int.tmod_eq_emod_of_nonneg ha.1
  rw [ht]
  rcases hs with rfl | rfl
  · simp
  · by_cases h : a % 2 = 1 <;> simp [h]
theorem codeA_ok {kind size a : Int} (hs : size = 1 ∨ size = 2) (h : codeA kind size a = 0) (ha : 0 ≤ a) : a < 512 ∧ a + size - 1 < 512 := by
  unfold codeA at h
  split at h
  · exact absurd h (by decide)
  split at h
  · exact absurd h (by decide)
  · rename_i h1 h2
    have h3 : ¬ kindA a = 1 := fun e => h2 (Or.inl e)
    have h4 : ¬ kindA (a + size - 1) = 1 := fun e => h2 (Or.inr e)
    unfold kindA at h3 h4
    split at h3
    · exact absurd rfl h3
    split at h4
    · exact absurd rfl h4
    omega
theorem goodBus_facts {l8 : List Int} {l9 : List S109} (h : goodBus l8 l9 = true) : l8.length = 512 ∧ l9.length ≤ 400 ∧ ∀ i : Int, 0 ≤ i → i < (l8.length : Int) → 0 ≤ rd l8 i ∧ rd l8 i ≤ 255 := by
  unfold goodBus at h
  simp only [Bool.and_eq_true, beq_iff_eq, decide_eq_true_eq] at h
  have h8 := List.all_eq_true.mp h.2.2.1
  refine ⟨by omega, by omega, fun i hi0 hi1 => ?_⟩
  obtain ⟨n, rfl⟩ : ∃ n : Nat, i = (n : Int) := ⟨i.toNat, by omega⟩
  have hl : n < l8.length := by omega
  rw [rdI hl]
  have := h8 _ (List.getElem_mem hl)
  simpa [isBy] using this
theorem or_zeroT {x : Int} (h : 0 ≤ x ∧ x ≤ 255) : bits .or .i64 0 x = x := by
  obtain ⟨n, rfl⟩ : ∃ n : Nat, x = (n : Int) := ⟨x.toNat, by omega⟩
  have := or_nat 0 n (by omega) (by omega)
  rw [show ((0 : Nat) : Int) = 0 from rfl] at this
  rw [this, Nat.zero_or]
theorem lOwnB_eq {l8 : List Int} {l9 : List S109} (h8 : l8.length ≤ 1048576) (h9 : l9.length ≤ 1048576) : spec_l4Own.f l8 l9 = some (l8, l9) := by
  unfold spec_l4Own.f
  simp only [Option.bind_some, List.length_nil, List.nil_append]
  rw [if_pos (by omega), if_pos (by omega)]
theorem iOwnB_eq {l8 : List Int} {l9 : List S109} (h8 : l8.length ≤ 1048576) (h9 : l9.length ≤ 1048576) : impl_ownBus.f l8 l9 = some (l8, l9) := by
  unfold impl_ownBus.f slices_Clone_int_int.f impl_Access_103.f
  simp only [Option.bind_some, List.length_nil, List.nil_append]
  rw [if_pos (by omega), if_pos (by omega)]
  rfl
set_option maxRecDepth 100000 in
set_option maxHeartbeats 4000000 in
theorem touch_eq {k : Nat} (hk : 4 ≤ k) {l8 : List Int} {l9 : List S109} (h8 : l8.length = 512) (h9 : l9.length ≤ 400) (hb8 : ∀ i : Int, 0 ≤ i → i < (l8.length : Int) → 0 ≤ rd l8 i ∧ rd l8 i ≤ 255) {kind size a v : Int} (hkind : kind = 1 ∨ kind = 2 ∨ kind = 3) (hs : size = 1 ∨ size = 2) (ha : 0 ≤ a ∧ a ≤ 65535) (hv : 0 ≤ v ∧ v < top size) :
    ∃ (m8 : List Int) (m9 : List S109) (x c : Int), (m8.length = 512 ∧ m9.length ≤ 1048576) ∧ spec_Touch.j0 k kind size a v false l8 l9 = some (m8, m9, x, c, true) ∧ impl_Touch.j0 k kind size a v false l8 l9 = some (m8, m9, x, c, true) := by
  obtain ⟨k, rfl⟩ : ∃ n, k = n + 1 := ⟨k - 1, by omega⟩
  rw [spec_Touch.j0, impl_Touch.j0, if_neg (by simp), if_neg (by simp), lOwnB_eq (by omega) (by omega), iOwnB_eq (by omega) (by omega)]
  simp only [Option.bind_some]
  rw [lCode_eq (by omega) kind hs ha, iCode_eq (by omega) kind hs ha, Option.bind_some, Option.bind_some]
  have hw : wrap64 a = a := wrap64_id (by omega) (by omega)
  have hw1 : wrap64 (a + 1) = a + 1 := wrap64_id (by omega) (by omega)
  have hl2 : l9.length < 3518437208883 := by omega
  have hl4 : ∀ (x : S109), (l9 ++ [x]).length ≤ 1048576 := fun x => by rw [List.length_append]; simp only [List.length_cons, List.length_nil]; omega
  have hd : ∀ (l : List Int) (i : Nat) (x : Int), l.length = 512 → (l.set i x).length = 512 := fun l i x h => by rw [List.length_set]; exact h
  have hle : ∀ (l : List Int), l.length = 512 → l.length ≤ 1048576 := fun l h => by omega
  by_cases hc : codeA kind size a = 0
  · have hb := codeA_ok hs hc ha.1
    have hA : (0 : Int) ≤ a := ha.1
    have hB : a < (l8.length : Int) := by omega
    have hC : (0 : Int) ≤ a + 1 := by omega
    have hD : size = 2 → a + 1 < (l8.length : Int) := fun e => by omega
    rw [hc]
    simp only [if_true]
    rcases hs with rfl | rfl
    · have t1 : top 1 = 256 := by decide +kernel
      rw [t1] at hv
      have e1 : IntKind.u64.wrap (wrap64 (8 * wrap64 (wrap64 (1 - 1)))) = 0 := by decide +kernel
      have e2 : shr .i64 v 0 = v := by show v / 1 = v; omega
      have e3 : bits .and .i64 v 255 = v := by rw [and_255]; omega
      rw [e1, e2, e3, hw]
      simp only [Int.reduceLT, Int.reduceEq, Int.le_refl, if_true, if_false, if_pos hA, if_pos hB, Option.bind_some, or_zeroT (hb8 a hA hB)]
      rcases hkind with rfl | rfl | rfl
      · simp only [Int.reduceEq, if_true, if_false]
        by_cases hl : (l9.length : Int) < 400
        · simp only [if_pos hl, if_pos hl2, lOwnB_eq (hle _ h8) (hl4 _), Option.bind_some]
          exact ⟨_, _, _, _, ⟨h8, hl4 _⟩, rfl, rfl⟩
        · simp only [if_neg hl, lOwnB_eq (hle _ h8) (show l9.length ≤ 1048576 by omega), Option.bind_some]
          exact ⟨_, _, _, _, ⟨h8, by omega⟩, rfl, rfl⟩
      · simp only [Int.reduceEq, if_true, if_false]
        by_cases hl : (l9.length : Int) < 400
        · simp only [if_pos hl, if_pos hl2, lOwnB_eq (hle _ (hd _ _ _ h8)) (hl4 _), Option.bind_some]
          exact ⟨_, _, _, _, ⟨hd _ _ _ h8, hl4 _⟩, rfl, rfl⟩
        · simp only [if_neg hl, lOwnB_eq (hle _ (hd _ _ _ h8)) (show l9.length ≤ 1048576 by omega), Option.bind_some]
          exact ⟨_, _, _, _, ⟨hd _ _ _ h8, by omega⟩, rfl, rfl⟩
      · simp only [Int.reduceEq, if_true, if_false]
        by_cases hl : (l9.length : Int) < 400
        · simp only [if_pos hl, lOwnB_eq (hle _ h8) (show l9.length ≤ 1048576 by omega), Option.bind_some]
          exact ⟨_, _, _, _, ⟨h8, by omega⟩, rfl, rfl⟩
        · simp only [if_neg hl, lOwnB_eq (hle _ h8) (show l9.length ≤ 1048576 by omega), Option.bind_some]
          exact ⟨_, _, _, _, ⟨h8, by omega⟩, rfl, rfl⟩
    · have t1 : top 2 = 65536 := by decide +kernel
      rw [t1] at hv
      have hD' := hD rfl
      have e1 : IntKind.u64.wrap (wrap64 (8 * wrap64 (wrap64 (2 - 1)))) = 8 := by decide +kernel
      have e1' : IntKind.u64.wrap (wrap64 (8 * wrap64 (wrap64 (2 - 1) - 1))) = 0 := by decide +kernel
      have e2 : shr .i64 v 0 = v := by show v / 1 = v; omega
      have e4 : bits .and .i64 (shr .i64 v 8) 255 = v / 256 := by rw [and_255]; show v / 256 % 256 = v / 256; omega
      rw [e1, e1', e2, e4, hw, hw1]
      simp only [Int.reduceLT, Int.reduceEq, Int.reduceLE, Int.le_refl, if_true, if_false, if_pos hA, if_pos hB, if_pos hC, if_pos hD', Option.bind_some, or_zeroT (hb8 a hA hB)]
      rcases hkind with rfl | rfl | rfl
      · simp only [Int.reduceEq, if_true, if_false]
        by_cases hl : (l9.length : Int) < 400
        · simp only [if_pos hl, if_pos hl2, lOwnB_eq (hle _ h8) (hl4 _), Option.bind_some]
          exact ⟨_, _, _, _, ⟨h8, hl4 _⟩, rfl, rfl⟩
        · simp only [if_neg hl, lOwnB_eq (hle _ h8) (show l9.length ≤ 1048576 by omega), Option.bind_some]
          exact ⟨_, _, _, _, ⟨h8, by omega⟩, rfl, rfl⟩
      · simp only [Int.reduceEq, if_true, if_false]
        by_cases hl : (l9.length : Int) < 400
        · simp only [if_pos hl, if_pos hl2, lOwnB_eq (hle _ (hd _ _ _ (hd _ _ _ h8))) (hl4 _), Option.bind_some]
          exact ⟨_, _, _, _, ⟨hd _ _ _ (hd _ _ _ h8), hl4 _⟩, rfl, rfl⟩
        · simp only [if_neg hl, lOwnB_eq (hle _ (hd _ _ _ (hd _ _ _ h8))) (show l9.length ≤ 1048576 by omega), Option.bind_some]
          exact ⟨_, _, _, _, ⟨hd _ _ _ (hd _ _ _ h8), by omega⟩, rfl, rfl⟩
      · simp only [Int.reduceEq, if_true, if_false]
        by_cases hl : (l9.length : Int) < 400
        · simp only [if_pos hl, lOwnB_eq (hle _ h8) (show l9.length ≤ 1048576 by omega), Option.bind_some]
          exact ⟨_, _, _, _, ⟨h8, by omega⟩, rfl, rfl⟩
        · simp only [if_neg hl, lOwnB_eq (hle _ h8) (show l9.length ≤ 1048576 by omega), Option.bind_some]
          exact ⟨_, _, _, _, ⟨h8, by omega⟩, rfl, rfl⟩
  · simp only [if_neg hc, if_pos hl2, ite_self]
    by_cases hl : (l9.length : Int) < 400
    · simp only [if_pos hl, lOwnB_eq (hle _ h8) (hl4 _), Option.bind_some]
      by_cases h2 : kind = 2
      · simp only [if_pos h2]; exact ⟨_, _, _, _, ⟨h8, hl4 _⟩, rfl, rfl⟩
      · simp only [if_neg h2]; exact ⟨_, _, _, _, ⟨h8, hl4 _⟩, rfl, rfl⟩
    · simp only [if_neg hl, lOwnB_eq (hle _ h8) (show l9.length ≤ 1048576 by omega), Option.bind_some]
      by_cases h2 : kind = 2
      · simp only [if_pos h2]; exact ⟨_, _, _, _, ⟨h8, by omega⟩, rfl, rfl⟩
      · simp only [if_neg h2]; exact ⟨_, _, _, _, ⟨h8, by omega⟩, rfl, rfl⟩
theorem szBus_eq (l8 : List Int) (l9 : List S115) (a : Int) (ha : 0 ≤ a ∧ a ≤ 1048576) (h8 : l8.length ≤ 9223372036854775807) (h9 : l9.length ≤ 9223372036854775807) :
    ∃ r, laws_szBus.f l8 l9 a = some r ∧ (r < 0 ∨ (0 ≤ r ∧ l8.length ≤ 1048576 ∧ l9.length ≤ 1048576)) := by
  unfold laws_szBus.f
  obtain ⟨r8, e8, c8⟩ := szOne l8 a ha h8
  rw [e8, Option.bind_some]
  rcases c8 with c8 | ⟨p8, q8, s8⟩
  · rw [if_pos c8]
    exact ⟨_, rfl, Or.inl (by omega)⟩
  obtain ⟨r9, e9, c9⟩ := szAcc l9 r8 ⟨p8, q8⟩ h9
  rw [if_neg (by omega), e9, Option.bind_some]
  rcases c9 with c9 | ⟨p9, q9, s9⟩
  · rw [if_pos c9]
    exact ⟨_, rfl, Or.inl (by omega)⟩
  rw [if_neg (by omega)]
  exact ⟨r9, rfl, Or.inr ⟨p9, s8, s9⟩⟩
theorem toBus_eq {k : Nat} {l8 : List Int} {l9 : List S115} (h8 : Fits k l8.length) (h9 : Fits k l9.length) : laws_toBus.f k l8 l9 = some (l8, l9.map convA) := by
  unfold laws_toBus.f
  rw [toInt_eq h8.1 h8.2, toAcc_eq h9.1 h9.2]
  rfl
theorem eqBus_eq {k : Nat} {l8 : List Int} {l9 : List S109} (h8 : Fits k l8.length) (h9 : Fits k l9.length) : laws_eqBus.f k l8 l9 l8 l9 = some true := by
  unfold laws_eqBus.f
  rw [eqInt_eq h8.1 h8.2, eqAcc_eq h9.1 h9.2]
  simp
theorem markBus_eq {k : Nat} {l8 : List Int} {l9 : List S109} (h8 : Fits k l8.length) (h9 : Fits k l9.length) : laws_markBus.f k l8 l9 1 = some (1 + (l8.length : Int) + 5 * (l9.length : Int), upto 1 l8.length, uptoA (1 + (l8.length : Int)) l9.length) := by
  have b8 := h8.1
  have b9 := h9.1
  unfold laws_markBus.f
  rw [markIntS_eq l8 1 k h8.2 (by omega) (by omega), Option.bind_some]
  simp only
  rw [markA_eq l9 h9.1 _ k h9.2 (by omega) (by omega), Option.bind_some]
theorem heldBus_eq {k n8 n9 : Nat} (h8 : Fits k n8) (h9 : Fits k n9) : laws_heldBus.f k (upto 1 n8) (uptoA (1 + (n8 : Int)) n9) 1 = some (1 + (n8 : Int) + 5 * (n9 : Int)) := by
  have b8 := h8.1
  have b9 := h9.1
  unfold laws_heldBus.f
  rw [heldIntS_upto n8 1 k h8.2 (by omega) (by omega), Option.bind_some, if_neg (by omega), heldA_eq n9 h9.1 _ k h9.2 (by omega) (by omega), Option.bind_some, if_neg (by omega)]
set_option maxRecDepth 100000 in
theorem FnExactTouch : ∀ (l0_0 : (List Int)) (l0_1 : (List S115)) (a1 : Int) (a2 : Int) (a3 : Int) (a4 : Int), l0_0.length ≤ 9223372036854775807 → l0_1.length ≤ 9223372036854775807 → (Lit.int .i64 a1).wf = true → (Lit.int .i64 a2).wf = true → (Lit.int .i64 a3).wf = true → (Lit.int .i64 a4).wf = true → ∃ k, laws_FnExactTouch.f k l0_0 l0_1 a1 a2 a3 a4 = some true := by
  intro l8 l9 kind size a v h8 h9 _ _ _ _
  obtain ⟨r, hr, hc⟩ := szBus_eq l8 l9 1048576 (by omega) h8 h9
  rcases hc with hc | ⟨p, s8, s9⟩
  · refine ⟨0, ?_⟩
    unfold laws_FnExactTouch.f
    rw [hr, Option.bind_some, if_pos hc]
    try rw [Option.bind_some, if_pos (by omega)]
  · refine ⟨4194304, ?_⟩
    have e9 : (l9.map convA).length = l9.length := by simp
    have f8 : Fits 4194304 l8.length := ⟨s8, by omega⟩
    have f9 : Fits 4194304 l9.length := ⟨s9, by omega⟩
    have f9' : Fits 4194304 (l9.map convA).length := ⟨by omega, by omega⟩
    have hs : ∃ (m8 : List Int) (m9 : List S109) (b1 b2 : Int) (b3 : Bool), (Fits 4194304 m8.length ∧ Fits 4194304 m9.length) ∧
        spec_Touch.f 4194304 l8 (l9.map convA) kind size a v = some (m8, m9, b1, b2, b3) ∧ impl_Touch.f 4194304 l8 (l9.map convA) kind size a v = some (m8, m9, b1, b2, b3) := by
      unfold spec_Touch.f impl_Touch.f spec_l4Addr.f
      rw [lBus_eq ⟨s8, by omega, by omega⟩, iBus_eq f8 f9', l1In_eq, l1In_eq, within_eq, isWord_eq, lValue_eq, isValue_eq]
      simp only [Option.bind_some]
      have hbad : ∃ (m8 : List Int) (m9 : List S109) (b1 b2 : Int) (b3 : Bool), (Fits 4194304 m8.length ∧ Fits 4194304 m9.length) ∧
          spec_Touch.j0 4194304 kind size a v true l8 (l9.map convA) = some (m8, m9, b1, b2, b3) ∧ impl_Touch.j0 4194304 kind size a v true l8 (l9.map convA) = some (m8, m9, b1, b2, b3) :=
        ⟨[], [], 0, 0, false, ⟨⟨by simp, by simp⟩, ⟨by simp, by simp⟩⟩, by rw [spec_Touch.j0, if_pos rfl], by rw [impl_Touch.j0, if_pos rfl]⟩
      have hq : ∀ b : Bool, (b = false → goodBus l8 (l9.map convA) = true ∧ (1 ≤ kind ∧ kind ≤ 3) ∧ isVal size v = true ∧ (0 ≤ a ∧ a ≤ 65535)) → ∃ (m8 : List Int) (m9 : List S109) (b1 b2 : Int) (b3 : Bool), (Fits 4194304 m8.length ∧ Fits 4194304 m9.length) ∧
          spec_Touch.j0 4194304 kind size a v b l8 (l9.map convA) = some (m8, m9, b1, b2, b3) ∧ impl_Touch.j0 4194304 kind size a v b l8 (l9.map convA) = some (m8, m9, b1, b2, b3) := by
        intro b hb
        cases b with
        | true => exact hbad
        | false =>
          obtain ⟨hg, hk, hv, ha⟩ := hb rfl
          obtain ⟨g8, g9, gb⟩ := goodBus_facts hg
          obtain ⟨hs, hv⟩ := isVal_iff.mp hv
          obtain ⟨m8, m9, x, c, ⟨q8, q9⟩, e1, e2⟩ := touch_eq (k := 4194304) (by omega) g8 g9 gb (show kind = 1 ∨ kind = 2 ∨ kind = 3 by omega) hs ha hv
          exact ⟨m8, m9, x, c, true, ⟨⟨by omega, by omega⟩, ⟨q9, by omega⟩⟩, e1, e2⟩
      cases hg : goodBus l8 (l9.map convA) with
      | false => simp only [Bool.false_eq_true, if_false]; exact hbad
      | true =>
        by_cases hk : 1 ≤ kind ∧ kind ≤ 3
        · rw [decide_eq_true hk]
          cases hv : isVal size v with
          | false =>
            by_cases ha : 0 ≤ a ∧ a ≤ 65535
            · rw [decide_eq_true ha]; simp only [Bool.false_eq_true, if_false, if_true]; exact hbad
            · rw [decide_eq_false ha]; simp only [Bool.false_eq_true, if_false, if_true]; exact hbad
          | true =>
            by_cases ha : 0 ≤ a ∧ a ≤ 65535
            · rw [decide_eq_true ha]
              simp only [if_true]
              by_cases h2 : kind = 2
              · simp only [if_pos h2]; exact hq _ (fun _ => ⟨hg, hk, hv, ha⟩)
              · simp only [if_neg h2]; exact hq _ (fun _ => ⟨hg, hk, hv, ha⟩)
            · rw [decide_eq_false ha]; simp only [Bool.false_eq_true, if_false, if_true]; exact hbad
        · rw [decide_eq_false hk]; simp only [Bool.false_eq_true, if_false, if_true]; exact hbad
    obtain ⟨m8, m9, b1, b2, b3, ⟨g8, g9⟩, e1, e2⟩ := hs
    unfold laws_FnExactTouch.f
    rw [hr, Option.bind_some, if_neg (by omega), toBus_eq f8 f9]
    simp only [Option.bind_some]
    rw [e1]
    simp only [Option.bind_some]
    rw [e2]
    simp only [Option.bind_some]
    rw [eqBus_eq g8 g9, eqBus_eq f8 f9', markBus_eq f8 f9', markBus_eq g8 g9]
    have hneg : ¬ (1 + (m8.length : Int) + 5 * (m9.length : Int) < 0) := by omega
    have hneg2 : ¬ (1 + (l8.length : Int) + 5 * ((l9.map convA).length : Int) < 0) := by omega
    simp only [Option.bind_some, bne_self_eq_false, Bool.false_eq_true, if_false, if_true, hneg2]
    rw [heldBus_eq g8 g9]
    simp only [Option.bind_some, bne_self_eq_false, Bool.false_eq_true, if_false, if_true, hneg]

end Go.Proofs.Ytodmelfgkhebjaa.Pure
