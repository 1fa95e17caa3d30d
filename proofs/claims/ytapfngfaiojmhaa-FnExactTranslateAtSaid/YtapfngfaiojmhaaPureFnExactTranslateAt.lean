/- The law FnExactTranslateAt as a plain function answers true for all arguments (numbers of 64 bits, lists of at most 2^63 - 1 elements). No other condition. -/
import Derived.Test.YtapfngfaiojmhaaRx25
import Derived.Test.YtapfngfaiojmhaaMath
set_option linter.unusedVariables false
set_option linter.unusedSimpArgs false
namespace Go.Proofs.Ytapfngfaiojmhaa.Pure
open Go.RowKit Go.Proofs.Ytapfngfaiojmhaa.R Go.Proofs.YtapfngfaiojmhaaW.PrintWords Go.Proofs.YtapfngfaiojmhaaW.PrintLast Go.Proofs.Ytapfngfaiojmhaa.Math

theorem l1In_eq (a b c : Int) : spec_l1In.f a b c = some (decide (b ≤ a ∧ a ≤ c)) := by
  unfold spec_l1In.f
  by_cases h : b ≤ a <;> simp [h]
theorem within_eq (a b c : Int) : impl_within.f a b c = some (decide (b ≤ a ∧ a ≤ c)) := by
  unfold impl_within.f
  by_cases h : b ≤ a <;> simp [h]
theorem l6Word_eq (a : Int) : spec_l6Word.f a = some (decide (0 ≤ a ∧ a ≤ 65535)) := by
  unfold spec_l6Word.f
  rw [l1In_eq]
  rfl
theorem isWord_eq (a : Int) : impl_isWord.f a = some (decide (0 ≤ a ∧ a ≤ 65535)) := by
  unfold impl_isWord.f
  rw [within_eq]
  rfl
theorem lSize_eq (s : Int) : spec_l1Size.f s = some (decide (s = 1 ∨ s = 2)) := by
  unfold spec_l1Size.f
  by_cases h : s = 1
  · simp [h]
  · by_cases h2 : s = 2 <;> simp [h, h2]
theorem isSize_eq (s : Int) : impl_isSize.f s = some (decide (s = 1 ∨ s = 2)) := by
  unfold impl_isSize.f
  by_cases h : s = 1
  · simp [h]
  · by_cases h2 : s = 2 <;> simp [h, h2]
/-- How many values a size has. -/
def top (s : Int) : Int := if s = 1 then 256 else 65536
theorem lTop_1 : spec_l1Top.f 1 = some 256 := by decide +kernel
theorem lTop_2 : spec_l1Top.f 2 = some 65536 := by decide +kernel
theorem limit_1 : impl_limitOf.f 1 = some 256 := by decide +kernel
theorem limit_2 : impl_limitOf.f 2 = some 65536 := by decide +kernel
theorem lTop_eq {s : Int} (h : s = 1 ∨ s = 2) : spec_l1Top.f s = some (top s) := by
  rcases h with rfl | rfl
  · exact lTop_1
  · exact lTop_2
theorem limit_eq {s : Int} (h : s = 1 ∨ s = 2) : impl_limitOf.f s = some (top s) := by
  rcases h with rfl | rfl
  · exact limit_1
  · exact limit_2
theorem top_le {s : Int} : 256 ≤ top s ∧ top s ≤ 65536 := by unfold top; split <;> omega
/-- Whether v is a value of size s. -/
def isVal (s v : Int) : Bool := decide ((s = 1 ∨ s = 2) ∧ 0 ≤ v ∧ v < top s)
theorem isVal_iff {s v : Int} : isVal s v = true ↔ (s = 1 ∨ s = 2) ∧ 0 ≤ v ∧ v < top s := by simp [isVal]
theorem lValue_eq (s v : Int) : spec_l1Value.f s v = some (isVal s v) := by
  unfold spec_l1Value.f isVal
  rw [lSize_eq]
  by_cases h : s = 1 ∨ s = 2
  · have ht := @top_le s
    simp only [Option.bind_some, decide_eq_true_eq, h, if_true, lTop_eq h, l1In_eq, wrap64_id (n := top s - 1) (by omega) (by omega), true_and]
    congr 1
    rw [decide_eq_decide]
    omega
  · simp [h]
theorem isValue_eq (s v : Int) : impl_isValue.f s v = some (isVal s v) := by
  unfold impl_isValue.f isVal
  rw [isSize_eq]
  by_cases h : s = 1 ∨ s = 2
  · have ht := @top_le s
    simp only [Option.bind_some, decide_eq_true_eq, h, if_true, limit_eq h, within_eq, wrap64_id (n := top s - 1) (by omega) (by omega), true_and]
    congr 1
    rw [decide_eq_decide]
    omega
  · simp [h]
theorem stepNat {i n : Nat} (h : i < n) (hn : n ≤ 1048576) : wrap64 ((i : Int) + 1) = ((i + 1 : Nat) : Int) := by
  rw [wrap64_id (by omega) (by omega)]
  omega
theorem rdI {l : List Int} {i : Nat} (h : i < l.length) : rd l (i : Int) = l[i] := by
  simp [rd, List.getElem?_eq_getElem h]
theorem setMap {α β : Type} (f : α → β) (z : β) (l : List α) (i m : Nat) (h : i + (m + 1) = l.length) :
    ((l.take i).map f ++ List.replicate (m + 1) z).set i (f (l[i]'(by omega))) = (l.take (i + 1)).map f ++ List.replicate m z := by
  have hi : i < l.length := by omega
  rw [List.set_append_right _ _ (by simp; omega), List.take_succ_eq_append_getElem hi, List.map_append, List.append_assoc]
  congr 1
  have : i - ((l.take i).map f).length = 0 := by simp; omega
  rw [this, List.replicate_succ]
  rfl
/-- The four lists of a processor are short, and the rounds are enough for them. -/
def Fits (k : Nat) (n : Nat) : Prop := n ≤ 1048576 ∧ n < k
theorem eqInt_loop (l : List Int) (hl : l.length ≤ 1048576) : ∀ (m i k : Nat), i + m = l.length → m < k → laws_eqIntS.l0 k l l (i : Int) = some true
  | 0, i, k, h, hk => by
    obtain ⟨k, rfl⟩ : ∃ n, k = n + 1 := ⟨k - 1, by omega⟩
    rw [laws_eqIntS.l0, if_neg (by omega)]
  | m + 1, i, k, h, hk => by
    obtain ⟨k, rfl⟩ : ∃ n, k = n + 1 := ⟨k - 1, by omega⟩
    have hi : i < l.length := by omega
    rw [laws_eqIntS.l0, if_pos (by omega), if_pos (by omega), if_pos (by omega), if_pos rfl, stepNat hi hl]
    exact eqInt_loop l hl m (i + 1) k (by omega) (by omega)
theorem eqInt_eq {l : List Int} (hl : l.length ≤ 1048576) {k : Nat} (hk : l.length < k) : laws_eqIntS.f k l l = some true := by
  unfold laws_eqIntS.f
  rw [if_pos rfl]
  exact eqInt_loop l hl l.length 0 k (by omega) hk
theorem rdL {l : List S103} {i : Nat} (h : i < l.length) : rd_T103 l (i : Int) = l[i] := by
  simp [rd_T103, h]
theorem rdA {l : List S89} {i : Nat} (h : i < l.length) : rd_T89 l (i : Int) = l[i] := by
  simp [rd_T89, h]
/-- What the copy of one access is. -/
def convA (x : S103) : S89 := ⟨x.f0, x.f1, x.f2, x.f3, x.f4⟩
theorem toInt_loop (l : List Int) (hl : l.length ≤ 1048576) : ∀ (m i k : Nat), i + m = l.length → m < k →
    laws_toIntS.l0 k l ((l.take i).map id ++ List.replicate m 0) (i : Int) = some l
  | 0, i, k, h, hk => by
    obtain ⟨k, rfl⟩ : ∃ n, k = n + 1 := ⟨k - 1, by omega⟩
    rw [laws_toIntS.l0, if_neg (by omega), List.take_of_length_le (by omega)]
    simp
  | m + 1, i, k, h, hk => by
    obtain ⟨k, rfl⟩ : ∃ n, k = n + 1 := ⟨k - 1, by omega⟩
    have hi : i < l.length := by omega
    rw [laws_toIntS.l0, if_pos (by omega), if_pos (by omega), rdI hi, if_pos (by simp; omega), stepNat hi hl, Int.toNat_natCast]
    have := setMap id (0 : Int) l i m h
    simp only [id] at this
    change laws_toIntS.l0 k l (((l.take i).map id ++ List.replicate (m + 1) 0).set i l[i]) ((i + 1 : Nat) : Int) = _
    rw [this]
    exact toInt_loop l hl m (i + 1) k (by omega) (by omega)
theorem toInt_eq {l : List Int} (hl : l.length ≤ 1048576) {k : Nat} (hk : l.length < k) : laws_toIntS.f k l = some l := by
  unfold laws_toIntS.f
  rw [if_pos (by omega), if_pos (by rw [Int.toNat_natCast]; omega)]
  have := toInt_loop l hl l.length 0 k (by omega) hk
  simpa using this
theorem toAcc_loop (l : List S103) (hl : l.length ≤ 1048576) : ∀ (m i k : Nat), i + m = l.length → m < k →
    laws_toAccessS.l0 k l ((l.take i).map convA ++ List.replicate m z89) (i : Int) = some (l.map convA)
  | 0, i, k, h, hk => by
    obtain ⟨k, rfl⟩ : ∃ n, k = n + 1 := ⟨k - 1, by omega⟩
    rw [laws_toAccessS.l0, if_neg (by omega), List.take_of_length_le (by omega)]
    simp
  | m + 1, i, k, h, hk => by
    obtain ⟨k, rfl⟩ : ∃ n, k = n + 1 := ⟨k - 1, by omega⟩
    have hi : i < l.length := by omega
    rw [laws_toAccessS.l0, if_pos (by omega), if_pos (by omega), rdL hi]
    unfold laws_toAccess.f
    rw [Option.bind_some, if_pos (by simp; omega), stepNat hi hl, Int.toNat_natCast]
    change laws_toAccessS.l0 k l (((l.take i).map convA ++ List.replicate (m + 1) z89).set i (convA l[i])) ((i + 1 : Nat) : Int) = _
    rw [setMap convA z89 l i m h]
    exact toAcc_loop l hl m (i + 1) k (by omega) (by omega)
theorem toAcc_eq {l : List S103} (hl : l.length ≤ 1048576) {k : Nat} (hk : l.length < k) : laws_toAccessS.f k l = some (l.map convA) := by
  unfold laws_toAccessS.f
  rw [if_pos (by omega), if_pos (by rw [Int.toNat_natCast]; omega)]
  have := toAcc_loop l hl l.length 0 k (by omega) hk
  simpa using this
theorem eqAcc_loop (l : List S89) (hl : l.length ≤ 1048576) : ∀ (m i k : Nat), i + m = l.length → m < k → laws_eqAccessS.l0 k l l (i : Int) = some true
  | 0, i, k, h, hk => by
    obtain ⟨k, rfl⟩ : ∃ n, k = n + 1 := ⟨k - 1, by omega⟩
    rw [laws_eqAccessS.l0, if_neg (by omega)]
  | m + 1, i, k, h, hk => by
    obtain ⟨k, rfl⟩ : ∃ n, k = n + 1 := ⟨k - 1, by omega⟩
    have hi : i < l.length := by omega
    have hs : ∀ a b c d e, laws_eqAccess.f a b c d e a b c d e = some true := fun a b c d e => by simp [laws_eqAccess.f]
    rw [laws_eqAccessS.l0, if_pos (by omega), if_pos (by omega), if_pos (by omega), hs, Option.bind_some, if_pos rfl, stepNat hi hl]
    exact eqAcc_loop l hl m (i + 1) k (by omega) (by omega)
theorem eqAcc_eq {l : List S89} (hl : l.length ≤ 1048576) {k : Nat} (hk : l.length < k) : laws_eqAccessS.f k l l = some true := by
  unfold laws_eqAccessS.f
  rw [if_pos rfl]
  exact eqAcc_loop l hl l.length 0 k (by omega) hk
theorem szOne (l : List Int) (a : Int) (ha : 0 ≤ a ∧ a ≤ 1048576) (h : l.length ≤ 9223372036854775807) : ∃ r, laws_szIntS.f l a = some r ∧ (r < 0 ∨ (0 ≤ r ∧ r ≤ 1048576 ∧ l.length ≤ 1048576)) := by
  unfold laws_szIntS.f
  rw [wrap64_id (by omega) (by omega)]
  by_cases h : a - (l.length : Int) < 0
  · rw [if_pos h]
    exact ⟨-1, rfl, Or.inl (by omega)⟩
  · rw [if_neg h]
    exact ⟨_, rfl, Or.inr (by omega)⟩
theorem szAcc (l : List S103) (a : Int) (ha : 0 ≤ a ∧ a ≤ 1048576) (h : l.length ≤ 9223372036854775807) : ∃ r, laws_szAccessS.f l a = some r ∧ (r < 0 ∨ (0 ≤ r ∧ r ≤ 1048576 ∧ l.length ≤ 1048576)) := by
  unfold laws_szAccessS.f
  rw [wrap64_id (by omega) (by omega)]
  by_cases h : a - (l.length : Int) < 0
  · rw [if_pos h]
    exact ⟨-1, rfl, Or.inl (by omega)⟩
  · rw [if_neg h]
    exact ⟨_, rfl, Or.inr (by omega)⟩
/-- What a word, a byte, an access is. -/
def isW (x : Int) : Bool := decide (0 ≤ x ∧ x ≤ 65535)
def isBy (x : Int) : Bool := decide (0 ≤ x ∧ x ≤ 255)
def goodAcc (x : S89) : Bool := decide (1 ≤ x.f0 ∧ x.f0 ≤ 3) && (isVal x.f1 x.f3 && (decide (0 ≤ x.f2 ∧ x.f2 ≤ 65535) && (decide (0 ≤ x.f4 ∧ x.f4 ≤ 3) && (x.f0 != 3 || x.f4 != 0))))
theorem lAcc_eq (x : S89) : spec_l4Access.f x.f0 x.f1 x.f2 x.f3 x.f4 = some (goodAcc x) := by
  unfold spec_l4Access.f spec_l4Addr.f goodAcc
  simp only [l1In_eq, lValue_eq, Option.bind_some]
  cases decide (1 ≤ x.f0 ∧ x.f0 ≤ 3) <;> cases isVal x.f1 x.f3 <;> cases decide (0 ≤ x.f2 ∧ x.f2 ≤ 65535) <;> cases decide (0 ≤ x.f4 ∧ x.f4 ≤ 3) <;> by_cases h : x.f0 = 3 <;> simp [h]
theorem iAcc_eq (x : S89) : impl_isAccess.f x.f0 x.f1 x.f2 x.f3 x.f4 = some (goodAcc x) := by
  unfold impl_isAccess.f goodAcc
  simp only [within_eq, isWord_eq, isValue_eq, Option.bind_some]
  cases decide (1 ≤ x.f0 ∧ x.f0 ≤ 3) <;> cases isVal x.f1 x.f3 <;> cases decide (0 ≤ x.f2 ∧ x.f2 ≤ 65535) <;> cases decide (0 ≤ x.f4 ∧ x.f4 ≤ 3) <;> by_cases h : x.f0 = 3 <;> simp [h]
  all_goals simp [bne]
theorem lBytes_loop (l : List Int) (hl : l.length ≤ 1048576) : ∀ (m i k : Nat), i + m = l.length → m < k →
    spec_l4Bytes.l0 k l (l.length : Int) (i : Int) = some ((l.drop i).all isBy)
  | 0, i, k, h, hk => by
    obtain ⟨k, rfl⟩ : ∃ n, k = n + 1 := ⟨k - 1, by omega⟩
    rw [spec_l4Bytes.l0, if_neg (by omega), List.drop_of_length_le (by omega)]
    rfl
  | m + 1, i, k, h, hk => by
    obtain ⟨k, rfl⟩ : ∃ n, k = n + 1 := ⟨k - 1, by omega⟩
    have hi : i < l.length := by omega
    rw [spec_l4Bytes.l0, if_pos (by omega), if_pos (by omega), if_pos (by omega), rdI hi, l1In_eq, Option.bind_some, List.drop_eq_getElem_cons hi, List.all_cons, stepNat hi hl]
    change (if isBy l[i] = true then _ else _) = _
    cases isBy l[i] with
    | true =>
      rw [if_pos rfl, Bool.true_and]
      exact lBytes_loop l hl m (i + 1) k (by omega) (by omega)
    | false => rfl
theorem lBytes_eq {l : List Int} {k : Nat} (h : Fits k l.length) : spec_l4Bytes.f k l = some (l.all isBy) := by
  unfold spec_l4Bytes.f
  have := lBytes_loop l h.1 l.length 0 k (by omega) h.2
  simpa using this
def goodBus (l8 : List Int) (l9 : List S89) : Bool := l9.all goodAcc && (((l8.length : Int) == 512) && (l8.all isBy && decide ((l9.length : Int) ≤ 400)))
theorem lBus_loop (l8 : List Int) (hb : l8.length ≤ 1048576) (l : List S89) (hl : l.length ≤ 1048576) : ∀ (m i k : Nat), i + m = l.length → l8.length + 1 + m < k →
    spec_GoodBus.l0 k l (l.length : Int) (i : Int) l8 l = some ((l.drop i).all goodAcc && (((l8.length : Int) == 512) && (l8.all isBy && decide ((l.length : Int) ≤ 400))))
  | 0, i, k, h, hk => by
    obtain ⟨k, rfl⟩ : ∃ n, k = n + 1 := ⟨k - 1, by omega⟩
    have h8' : Fits k l8.length := ⟨hb, by omega⟩
    rw [spec_GoodBus.l0, if_neg (by omega), List.drop_of_length_le (by omega), lBytes_eq h8', Option.bind_some]
    by_cases hc : (l8.length : Int) = 512 <;> cases l8.all isBy <;> simp [hc]
  | m + 1, i, k, h, hk => by
    obtain ⟨k, rfl⟩ : ∃ n, k = n + 1 := ⟨k - 1, by omega⟩
    have hi : i < l.length := by omega
    rw [spec_GoodBus.l0, if_pos (by omega), if_pos (by omega), if_pos (by omega), rdA hi, lAcc_eq, Option.bind_some, List.drop_eq_getElem_cons hi, List.all_cons, stepNat hi hl]
    cases goodAcc l[i] with
    | true =>
      rw [if_pos rfl, Bool.true_and]
      exact lBus_loop l8 hb l hl m (i + 1) k (by omega) (by omega)
    | false => rfl
theorem lBus_eq {l8 : List Int} {l9 : List S89} {k : Nat} (h : l8.length ≤ 1048576 ∧ l9.length ≤ 1048576 ∧ l8.length + l9.length + 2 < k) : spec_GoodBus.f k l8 l9 = some (goodBus l8 l9) := by
  unfold spec_GoodBus.f
  obtain ⟨ha, hb, hc⟩ := h
  have := lBus_loop l8 ha l9 hb l9.length 0 k (by omega) (by omega)
  simpa [goodBus] using this
theorem iBy_loop (l : List Int) (hl : l.length ≤ 1048576) : ∀ (m i k : Nat), i + m = l.length → m < k →
    ∃ r, slices_IndexFunc_92_g60.l0 k l (l.length : Int) (i : Int) = some r ∧ decide (r ≥ 0) = !(l.drop i).all isBy
  | 0, i, k, h, hk => by
    obtain ⟨k, rfl⟩ : ∃ n, k = n + 1 := ⟨k - 1, by omega⟩
    refine ⟨-1, ?_, ?_⟩
    · rw [slices_IndexFunc_92_g60.l0, if_neg (by omega)]
    · rw [List.drop_of_length_le (by omega)]
      rfl
  | m + 1, i, k, h, hk => by
    obtain ⟨k, rfl⟩ : ∃ n, k = n + 1 := ⟨k - 1, by omega⟩
    have hi : i < l.length := by omega
    rw [slices_IndexFunc_92_g60.l0, if_pos (by omega), if_pos (by omega), if_pos (by omega), rdI hi, impl_GoodBus_1.f, within_eq, Option.bind_some, Option.bind_some, List.drop_eq_getElem_cons hi, List.all_cons, stepNat hi hl]
    change ∃ r, (if (!isBy l[i]) = true then _ else _) = some r ∧ _
    cases isBy l[i] with
    | true =>
      rw [if_neg (by simp), Bool.true_and]
      exact iBy_loop l hl m (i + 1) k (by omega) (by omega)
    | false => exact ⟨(i : Int), rfl, by simp⟩
theorem iBy_eq {l : List Int} {k : Nat} (h : Fits k l.length) : slices_ContainsFunc_59_g60.f k l = some (!l.all isBy) := by
  unfold slices_ContainsFunc_59_g60.f slices_IndexFunc_92_g60.f
  obtain ⟨r, h1, h2⟩ := iBy_loop l h.1 l.length 0 k (by omega) h.2
  rw [show ((0 : Nat) : Int) = 0 from rfl] at h1
  rw [h1, Option.bind_some, h2]
  rfl
theorem iAc_loop (l : List S89) (hl : l.length ≤ 1048576) : ∀ (m i k : Nat), i + m = l.length → m < k →
    ∃ r, slices_IndexFunc_93_g62.l0 k l (l.length : Int) (i : Int) = some r ∧ decide (r ≥ 0) = !(l.drop i).all goodAcc
  | 0, i, k, h, hk => by
    obtain ⟨k, rfl⟩ : ∃ n, k = n + 1 := ⟨k - 1, by omega⟩
    refine ⟨-1, ?_, ?_⟩
    · rw [slices_IndexFunc_93_g62.l0, if_neg (by omega)]
    · rw [List.drop_of_length_le (by omega)]
      rfl
  | m + 1, i, k, h, hk => by
    obtain ⟨k, rfl⟩ : ∃ n, k = n + 1 := ⟨k - 1, by omega⟩
    have hi : i < l.length := by omega
    rw [slices_IndexFunc_93_g62.l0, if_pos (by omega), if_pos (by omega), if_pos (by omega), rdA hi, impl_GoodBus_2.f, iAcc_eq, Option.bind_some, Option.bind_some, List.drop_eq_getElem_cons hi, List.all_cons, stepNat hi hl]
    change ∃ r, (if (!goodAcc l[i]) = true then _ else _) = some r ∧ _
    cases goodAcc l[i] with
    | true =>
      rw [if_neg (by simp), Bool.true_and]
      exact iAc_loop l hl m (i + 1) k (by omega) (by omega)
    | false => exact ⟨(i : Int), rfl, by simp⟩
theorem iAc_eq {l : List S89} {k : Nat} (h : Fits k l.length) : slices_ContainsFunc_61_g62.f k l = some (!l.all goodAcc) := by
  unfold slices_ContainsFunc_61_g62.f slices_IndexFunc_93_g62.f
  obtain ⟨r, h1, h2⟩ := iAc_loop l h.1 l.length 0 k (by omega) h.2
  rw [show ((0 : Nat) : Int) = 0 from rfl] at h1
  rw [h1, Option.bind_some, h2]
  rfl
theorem iBus_eq {l8 : List Int} {l9 : List S89} {k : Nat} (h8 : Fits k l8.length) (h9 : Fits k l9.length) : impl_GoodBus.f k l8 l9 = some (goodBus l8 l9) := by
  unfold impl_GoodBus.f goodBus
  rw [iBy_eq h8, iAc_eq h9]
  simp only [Option.bind_some]
  by_cases h1 : (l8.length : Int) = 512 <;> by_cases h2 : (l9.length : Int) ≤ 400 <;> cases l8.all isBy <;> cases l9.all goodAcc <;> simp [h1, h2]
theorem lKindAd_eq (k : Nat) (a : Int) : spec_l4Kind.f (k + 1) a = some (if a ≥ 512 ∨ (448 ≤ a ∧ a ≤ 495) then 1 else if 384 ≤ a ∧ a ≤ 447 then 3 else 0) := by
  unfold spec_l4Kind.f
  simp only [l1In_eq, Option.bind_some, spec_l4Kind.j0]
  by_cases h1 : a ≥ 512 <;> by_cases h2 : 448 ≤ a ∧ a ≤ 495 <;> by_cases h3 : 384 ≤ a ∧ a ≤ 447 <;> simp [h1, h2, h3]
theorem iKindAd_eq (k : Nat) (a : Int) : impl_kindOf.f (k + 1) a = some (if a ≥ 512 ∨ (448 ≤ a ∧ a ≤ 495) then 1 else if 384 ≤ a ∧ a ≤ 447 then 3 else 0) := by
  unfold impl_kindOf.f
  simp only [within_eq, Option.bind_some, impl_kindOf.j0]
  by_cases h1 : a ≥ 512 <;> by_cases h2 : 448 ≤ a ∧ a ≤ 495 <;> by_cases h3 : 384 ≤ a ∧ a ≤ 447 <;> simp [h1, h2, h3]
/-- What kind of byte lies at an address; what an access answers. -/
def kindAd (a : Int) : Int := if a ≥ 512 ∨ (448 ≤ a ∧ a ≤ 495) then 1 else if 384 ≤ a ∧ a ≤ 447 then 3 else 0
def codeB (kd s a : Int) : Int :=
  if s = 2 ∧ a % 2 = 1 then 2 else if kindAd a = 1 ∨ kindAd (a + s - 1) = 1 then 1 else if kd = 2 ∧ (kindAd a = 3 ∨ kindAd (a + s - 1) = 3) then 3 else 0
theorem lCode_eq (k : Nat) {kd s a : Int} (hs : s = 1 ∨ s = 2) (ha : 0 ≤ a ∧ a ≤ 65535) : spec_l4Code.f (k + 3) kd s a = some (codeB kd s a) := by
  have hw : wrap64 (wrap64 (a + s) - 1) = a + s - 1 := by
    rw [wrap64_id (n := a + s) (by omega) (by omega), wrap64_id (by omega) (by omega)]
  have hk : ∀ n x, spec_l4Kind.f (n + 1) x = some (kindAd x) := fun n x => lKindAd_eq n x
  unfold spec_l4Code.f codeB
  rw [hw, and_1]
  simp only [spec_l4Code.j0, spec_l4Code.j1, hk, Option.bind_some]
  generalize kindAd a = x
  generalize kindAd (a + s - 1) = y
  generalize a % 2 = z
  by_cases h1 : s = 2 <;> by_cases h2 : z = 1 <;> by_cases h3 : x = 1 <;> by_cases h4 : y = 1 <;> by_cases h5 : kd = 2 <;> by_cases h6 : x = 3 <;> by_cases h7 : y = 3 <;> simp [h1, h2, h3, h4, h5, h6, h7]
theorem iCode_eq (k : Nat) {kd s a : Int} (hs : s = 1 ∨ s = 2) (ha : 0 ≤ a ∧ a ≤ 65535) : impl_codeOf.f (k + 3) kd s a = some (codeB kd s a) := by
  have hw : wrap64 (wrap64 (a + s) - 1) = a + s - 1 := by
    rw [wrap64_id (n := a + s) (by omega) (by omega), wrap64_id (by omega) (by omega)]
  have hk : ∀ n x, impl_kindOf.f (n + 1) x = some (kindAd x) := fun n x => iKindAd_eq n x
  unfold impl_codeOf.f codeB
  rw [Int.tmod_eq_emod_of_nonneg ha.1]
  simp only [impl_codeOf.j0, impl_codeOf.j1, hk, Option.bind_some, hw]
  generalize kindAd a = x
  generalize kindAd (a + s - 1) = y
  generalize a % 2 = z
  by_cases h1 : s = 2 <;> by_cases h2 : z = 1 <;> by_cases h3 : x = 1 <;> by_cases h4 : y = 1 <;> by_cases h5 : kd = 2 <;> by_cases h6 : x = 3 <;> by_cases h7 : y = 3 <;> simp [h1, h2, h3, h4, h5, h6, h7]
def memB (m : Int) : Bool := decide (2 ≤ m ∧ m ≤ 6)
def plainB (m : Int) : Bool := m == 2 || (m == 5 || m == 6)
def nowB (m e : Int) : Bool := m == 7 && decide (e ≤ 1023)
def zeroB (m r e : Int) : Bool := m == 0 && (r == 0 && (e == 0))
/-- Whether an operand is good. -/
def goodEa (m r e : Int) : Bool := decide (0 ≤ m ∧ m ≤ 7) && decide (0 ≤ r ∧ r ≤ 3) && decide (0 ≤ e ∧ e ≤ 65535) && (decide (5 ≤ m) || e == 0) && (decide (m < 6) || r == 0)
theorem lMemory_eq (m : Int) : spec_l7Memory.f m = some (memB m) := by
  unfold spec_l7Memory.f
  rw [l1In_eq]
  rfl
theorem isMemory_eq (m : Int) : impl_isMemory.f m = some (memB m) := by
  unfold impl_isMemory.f
  rw [within_eq]
  rfl
theorem lPlain_eq (m : Int) : spec_l7Plain.f m = some (plainB m) := by
  unfold spec_l7Plain.f plainB
  by_cases h : m = 2
  · simp [h]
  · have e1 : (m == 2) = false := beq_eq_false_iff_ne.2 h
    by_cases h2 : m = 5
    · simp [h2]
    · have e2 : (m == 5) = false := beq_eq_false_iff_ne.2 h2
      simp [h, h2, e1, e2]
theorem isPlain_eq (m : Int) : impl_isPlain.f m = some (plainB m) := by
  unfold impl_isPlain.f plainB
  by_cases h : m = 2
  · simp [h]
  · have e1 : (m == 2) = false := beq_eq_false_iff_ne.2 h
    by_cases h2 : m = 5
    · simp [h2]
    · have e2 : (m == 5) = false := beq_eq_false_iff_ne.2 h2
      simp [h, h2, e1, e2]
theorem lNow_eq (m r e : Int) : spec_l7Now.f m r e = some (nowB m e) := by
  unfold spec_l7Now.f nowB
  by_cases h : m = 7 <;> simp [h]
theorem isNow_eq (m r e : Int) : impl_isNow.f m r e = some (nowB m e) := by
  unfold impl_isNow.f nowB
  by_cases h : m = 7 <;> simp [h]
theorem lZero_eq (m r e : Int) : spec_l7Zero.f m r e = some (zeroB m r e) := rfl
theorem isSettable_eq (m : Int) : impl_isSettable.f m = some (m == 0 || memB m) := by
  unfold impl_isSettable.f
  rw [isMemory_eq]
  by_cases h : m = 0 <;> simp [h]
theorem lExt_eq (m : Int) : spec_l6Ext.f m = some (decide (5 ≤ m)) := rfl
theorem needsExt_eq (m : Int) : impl_needsExt.f m = some (decide (m = 5 ∨ m = 6 ∨ m = 7)) := by
  unfold impl_needsExt.f
  by_cases h : m = 5
  · simp [h]
  · by_cases h2 : m = 6
    · simp [h2]
    · by_cases h3 : m = 7 <;> simp [h, h2, h3]
theorem lGoodOperand_eq (k : Nat) (m r e : Int) : spec_GoodOperand.f (k + 1) m r e = some (goodEa m r e) := by
  unfold spec_GoodOperand.f goodEa
  simp only [l1In_eq, l6Word_eq, lExt_eq, Option.bind_some, spec_GoodOperand.j0, decide_eq_true_eq]
  by_cases h1 : 0 ≤ m ∧ m ≤ 7 <;> by_cases h2 : 0 ≤ r ∧ r ≤ 3 <;> by_cases h3 : 0 ≤ e ∧ e ≤ 65535 <;> by_cases h4 : 6 ≤ m <;> by_cases h5 : r = 0 <;> by_cases h6 : 5 ≤ m <;> simp [h1, h2, h3, h4, h5, h6, Int.not_lt.2, Int.not_le] <;> omega
theorem goodOperand_eq (m r e : Int) : impl_GoodOperand.f m r e = some (goodEa m r e) := by
  unfold impl_GoodOperand.f goodEa
  simp only [within_eq, isWord_eq, needsExt_eq, Option.bind_some, decide_eq_true_eq]
  by_cases h1 : 0 ≤ m ∧ m ≤ 7
  · have e1 : (m = 5 ∨ m = 6 ∨ m = 7) ↔ 5 ≤ m := by omega
    simp only [e1]
    by_cases h2 : 0 ≤ r ∧ r ≤ 3 <;> by_cases h3 : 0 ≤ e ∧ e ≤ 65535 <;> by_cases h4 : m < 6 <;> by_cases h5 : r = 0 <;> by_cases h6 : 5 ≤ m <;> by_cases h7 : e = 0 <;> simp [h1, h2, h3, h4, h5, h6, h7]
  · simp [h1]
/-- Whether an instruction is right by its Op. -/
def kindB (op s r m er e b : Int) : Bool :=
  if op = 1 ∨ op = 3 ∨ op = 4 ∨ op = 5 ∨ op = 6 ∨ op = 7 ∨ op = 8 then b == 0 && (s == 2 || m != 1)
  else if op = 2 then b == 0 && (m == 0 || memB m)
  else if op = 9 then s == 2 && b == 0
  else if op = 10 then s == 2 && (b == 0 && plainB m)
  else if op = 11 then r == 0 && (decide (b ≤ 3) && (m == 0 || memB m))
  else if op = 12 then m == 0
  else if op = 13 then s == 2 && (decide (r ≤ 1) && m == 7)
  else if op = 14 then s == 2 && (r == 0 && (decide (b ≤ 1) && plainB m))
  else if op = 15 then (if b = 3 then s == 2 && (r == 0 && nowB m e) else s == 2 && (decide (b ≤ 6) && (zeroB m er e && (decide (3 < b) || r == 0))))
  else if op = 16 ∨ op = 17 then s == 2 && (b == 0 && m != 1)
  else if op = 18 then s != 2 && (decide (b ≤ 1) && m == 0)
  else if op = 19 then s == 2 && ((b == 0 && (r == 0 && nowB m e)) || (b == 1 && zeroB m er e))
  else false
/-- Whether an instruction is good. -/
def goodIns (op s r m er e b : Int) : Bool :=
  decide (s = 1 ∨ s = 2) && decide (0 ≤ r ∧ r ≤ 3) && decide (0 ≤ b ∧ b ≤ 7) && goodEa m er e && !(m == 7 && (s == 1 && decide (255 < e))) && kindB op s r m er e b
theorem lIns_kind (k : Nat) (op s r m er e b : Int) : spec_GoodIns.j0 (k + 3) false op s r m er e b = some (kindB op s r m er e b) := by
  have hcases : (op = 1 ∨ op = 3 ∨ op = 4 ∨ op = 5 ∨ op = 6 ∨ op = 7 ∨ op = 8) ∨ op = 2 ∨ op = 9 ∨ op = 10 ∨ op = 11 ∨ op = 12 ∨ op = 13 ∨ op = 14 ∨ op = 15 ∨ op = 16 ∨ op = 17 ∨ op = 18 ∨ op = 19 ∨ (op < 1 ∨ 19 < op) := by omega
  simp only [spec_GoodIns.j0, spec_GoodIns.j1, spec_GoodIns.j2, lMemory_eq, lPlain_eq, lNow_eq, lZero_eq, Option.bind_some, Bool.false_eq_true, if_false]
  unfold kindB
  rcases hcases with (rfl | rfl | rfl | rfl | rfl | rfl | rfl) | rfl | rfl | rfl | rfl | rfl | rfl | rfl | rfl | rfl | rfl | rfl | rfl | h
  case inr.inr.inr.inr.inr.inr.inr.inr.inr.inr.inr.inr.inr => simp [show op ≠ 1 by omega, show op ≠ 2 by omega, show op ≠ 3 by omega, show op ≠ 4 by omega, show op ≠ 5 by omega, show op ≠ 6 by omega, show op ≠ 7 by omega, show op ≠ 8 by omega, show op ≠ 9 by omega, show op ≠ 10 by omega, show op ≠ 11 by omega, show op ≠ 12 by omega, show op ≠ 13 by omega, show op ≠ 14 by omega, show op ≠ 15 by omega, show op ≠ 16 by omega, show op ≠ 17 by omega, show op ≠ 18 by omega, show op ≠ 19 by omega]
  all_goals first
    | (simp; done)
    | grind
theorem lIns_true (k : Nat) (op s r m er e b : Int) : spec_GoodIns.j0 (k + 3) true op s r m er e b = some false := by simp [spec_GoodIns.j0]
theorem lGoodIns_eq (k : Nat) (op s r m er e b : Int) : spec_GoodIns.f (k + 3) op s r m er e b = some (goodIns op s r m er e b) := by
  unfold spec_GoodIns.f goodIns
  simp only [lSize_eq, l1In_eq, lGoodOperand_eq, Option.bind_some, decide_eq_true_eq, lIns_true, lIns_kind]
  have hm : (m == 7) = decide (m = 7) := rfl
  have hs : (s == 1) = decide (s = 1) := rfl
  by_cases h1 : s = 1 ∨ s = 2 <;> by_cases h2 : 0 ≤ r ∧ r ≤ 3 <;> cases h3 : goodEa m er e <;> by_cases h4 : 0 ≤ b ∧ b ≤ 7 <;> simp only [h1, h2, h4, if_true, if_false, decide_true, decide_false, Bool.true_and, Bool.false_and, Bool.and_false, Bool.false_eq_true, hm, hs, and_self]
  by_cases h5 : m = 7 <;> by_cases h6 : s = 1 <;> by_cases h7 : e > 255 <;> simp [h5, h6, h7, lIns_true, lIns_kind]
theorem iKind_eq (k : Nat) (op s r m er e b : Int) (hs : s = 1 ∨ s = 2) (hb : 0 ≤ b) : impl_isKind.f (k + 3) op s r m er e b = some (kindB op s r m er e b) := by
  have hcases : (op = 1 ∨ op = 3 ∨ op = 4 ∨ op = 5 ∨ op = 6 ∨ op = 7 ∨ op = 8) ∨ op = 2 ∨ op = 9 ∨ op = 10 ∨ op = 11 ∨ op = 12 ∨ op = 13 ∨ op = 14 ∨ op = 15 ∨ op = 16 ∨ op = 17 ∨ op = 18 ∨ op = 19 ∨ (op < 1 ∨ 19 < op) := by omega
  simp only [impl_isKind.f, impl_isKind.j0, impl_isKind.j1, impl_isFlow.f, impl_isFlow.j0, isSettable_eq, isPlain_eq, isNow_eq, Option.bind_some]
  unfold kindB zeroB
  rcases hcases with (rfl | rfl | rfl | rfl | rfl | rfl | rfl) | rfl | rfl | rfl | rfl | rfl | rfl | rfl | rfl | rfl | rfl | rfl | rfl | h
  case inr.inr.inr.inr.inr.inr.inr.inr.inr.inr.inr.inr.inr => simp [show op ≠ 1 by omega, show op ≠ 2 by omega, show op ≠ 3 by omega, show op ≠ 4 by omega, show op ≠ 5 by omega, show op ≠ 6 by omega, show op ≠ 7 by omega, show op ≠ 8 by omega, show op ≠ 9 by omega, show op ≠ 10 by omega, show op ≠ 11 by omega, show op ≠ 12 by omega, show op ≠ 13 by omega, show op ≠ 14 by omega, show op ≠ 15 by omega, show op ≠ 16 by omega, show op ≠ 17 by omega, show op ≠ 18 by omega, show op ≠ 19 by omega]
  case inr.inr.inr.inr.inr.inr.inr.inr.inl =>
    by_cases h3 : b = 3
    · subst h3
      rcases hs with rfl | rfl <;> by_cases hr : r = 0 <;> simp [hr]
    · by_cases h6 : b ≤ 6
      · have e6 : ¬ b > 6 := by omega
        by_cases hl : b < 3
        · have e3 : ¬ 3 < b := by omega
          rcases hs with rfl | rfl <;> by_cases hr : r = 0 <;> simp [h3, h6, e6, hl, e3, hr]
        · have e3 : 3 < b := by omega
          rcases hs with rfl | rfl <;> by_cases hr : r = 0 <;> simp [h3, h6, e6, hl, e3, hr]
      · have e6 : b > 6 := by omega
        rcases hs with rfl | rfl <;> simp [h3, h6, e6]
  all_goals first
    | (simp; done)
    | grind
theorem iGoodIns_eq (k : Nat) (op s r m er e b : Int) : impl_GoodIns.f (k + 3) op s r m er e b = some (goodIns op s r m er e b) := by
  unfold impl_GoodIns.f goodIns
  simp only [isSize_eq, within_eq, goodOperand_eq, Option.bind_some, decide_eq_true_eq]
  by_cases h1 : s = 1 ∨ s = 2
  · by_cases h4 : 0 ≤ b ∧ b ≤ 7
    · rw [iKind_eq k op s r m er e b h1 h4.1]
      rcases h1 with rfl | rfl <;> cases h3 : goodEa m er e <;> by_cases h2 : 0 ≤ r ∧ r ≤ 3 <;> by_cases h5 : m = 7 <;> by_cases h7 : e > 255 <;> simp [h2, h4, h5, h7]
    · simp [h1, h4]
  · simp [h1]
theorem good_parts {op s r m er e b : Int} (h : goodIns op s r m er e b = true) : (s = 1 ∨ s = 2) ∧ (0 ≤ r ∧ r ≤ 3) ∧ (0 ≤ b ∧ b ≤ 7) ∧ goodEa m er e = true ∧ kindB op s r m er e b = true := by
  unfold goodIns at h
  simp only [Bool.and_eq_true, decide_eq_true_eq] at h
  exact ⟨h.1.1.1.1.1, h.1.1.1.1.2, h.1.1.1.2, h.1.1.2, h.2⟩
theorem good_11 {op s r m er e b : Int} (h : goodIns op s r m er e b = true) (ho : op = 11) : b ≤ 3 := by
  have := (good_parts h).2.2.2.2
  subst ho
  simp [kindB] at this
  omega
theorem good_13 {op s r m er e b : Int} (h : goodIns op s r m er e b = true) (ho : op = 13) : r ≤ 1 := by
  have := (good_parts h).2.2.2.2
  subst ho
  simp [kindB] at this
  omega
theorem good_15 {op s r m er e b : Int} (h : goodIns op s r m er e b = true) (ho : op = 15) : b ≤ 6 := by
  have := (good_parts h).2.2.2.2
  subst ho
  simp only [kindB] at this
  by_cases h3 : b = 3
  · omega
  · simp [h3] at this
    omega
def mayWriteB (op m b : Int) : Bool := if op = 2 then memB m else if op = 11 then decide (b < 3) && memB m else if op = 14 then b == 1 else false
def straightB (op b : Int) : Bool := if op = 13 ∨ op = 14 then false else if op = 15 then b == 2 || (b == 5 || b == 6) else if op = 19 then b != 0 else true
theorem lStraight_eq (k : Nat) (op s r m er e b : Int) : spec_l14Straight.f (k + 1) op s r m er e b = some (straightB op b) := by
  unfold spec_l14Straight.f straightB
  simp only [spec_l14Straight.j0]
  grind
theorem iStraight_eq (k : Nat) (op s r m er e b : Int) : impl_isStraight.f (k + 1) op s r m er e b = some (straightB op b) := by
  unfold impl_isStraight.f straightB
  simp only [impl_isStraight.j0]
  grind
theorem or_15_16 : bits .or .i64 15 16 = 31 := by decide +kernel
theorem or_15_0 : bits .or .i64 15 0 = 15 := by decide +kernel
theorem or_31_0 : bits .or .i64 31 0 = 31 := by decide +kernel
theorem or_0_15 : bits .or .i64 0 15 = 15 := by decide +kernel
theorem or_0_0 : bits .or .i64 0 0 = 0 := by decide +kernel
theorem or_31_15 : bits .or .i64 31 15 = 31 := by decide +kernel
theorem andNot_31_4 : bits .andNot .i64 31 4 = 27 := by decide +kernel
theorem andNot_31_16 : bits .andNot .i64 31 16 = 15 := by decide +kernel
def setsI (op b : Int) : Int :=
  if op = 1 ∨ op = 2 ∨ op = 5 ∨ op = 6 ∨ op = 7 ∨ op = 8 ∨ op = 16 ∨ op = 17 then 15 else if op = 3 ∨ op = 4 then 31 else if op = 11 then (if b = 1 then 31 else 15)
  else if op = 12 then (if b = 4 ∨ b = 5 then 15 else 31) else if op = 18 then 27 else if op = 15 then (if b = 1 ∨ b = 3 then 31 else if 5 ≤ b then 15 else 0) else if op = 19 then (if b = 0 then 31 else 0) else 0
theorem lFlag_eq (c : Bool) (f : Int) : spec_l1Flag.f c f = some (if c then f else 0) := by
  unfold spec_l1Flag.f
  cases c <;> rfl
theorem lSets_eq (k : Nat) (op s r m er e b : Int) : spec_l14Sets.f (k + 2) op s r m er e b = some (setsI op b) := by
  unfold spec_l14Sets.f setsI
  simp only [spec_l14Sets.j0, spec_l14Sets.j1, lFlag_eq, Option.bind_some]
  have hop : (op = 1 ∨ op = 2 ∨ op = 5 ∨ op = 6 ∨ op = 7 ∨ op = 8 ∨ op = 16 ∨ op = 17) ∨ (op = 3 ∨ op = 4) ∨ op = 11 ∨ op = 12 ∨ op = 18 ∨ op = 15 ∨ op = 19 ∨ (op ≠ 1 ∧ op ≠ 2 ∧ op ≠ 3 ∧ op ≠ 4 ∧ op ≠ 5 ∧ op ≠ 6 ∧ op ≠ 7 ∧ op ≠ 8 ∧ op ≠ 11 ∧ op ≠ 12 ∧ op ≠ 15 ∧ op ≠ 16 ∧ op ≠ 17 ∧ op ≠ 18 ∧ op ≠ 19) := by omega
  have hb : b = 0 ∨ b = 1 ∨ b = 3 ∨ b = 4 ∨ b = 5 ∨ b = 6 ∨ 7 ≤ b ∨ (b ≠ 0 ∧ b ≠ 1 ∧ b ≠ 3 ∧ b < 4) := by omega
  rcases hop with (rfl | rfl | rfl | rfl | rfl | rfl | rfl | rfl) | (rfl | rfl) | rfl | rfl | rfl | rfl | rfl | h
  case inr.inr.inr.inr.inr.inr.inr => simp [h]
  all_goals try (simp; done)
  all_goals
    rcases hb with rfl | rfl | rfl | rfl | rfl | rfl | hb | ⟨hb0, hb1, hb3, hb4⟩
    all_goals first
      | (simp [or_15_16, or_15_0, or_31_0, or_0_15, or_0_0]; done)
      | (simp [or_15_16, or_15_0, or_31_0, or_0_15, or_0_0, show ¬ b = 0 by omega, show ¬ b = 1 by omega, show ¬ b = 3 by omega, show ¬ b = 4 by omega, show ¬ b = 5 by omega, show ¬ b = 6 by omega, show 5 ≤ b by omega]; done)
      | (simp [or_15_16, or_15_0, or_31_0, or_0_15, or_0_0, show ¬ b = 0 by omega, show ¬ b = 1 by omega, show ¬ b = 3 by omega, show ¬ b = 4 by omega, show ¬ b = 5 by omega, show ¬ b = 6 by omega, show ¬ 5 ≤ b by omega]; done)
theorem iSets_eq (k : Nat) {op b : Int} (s r m er e : Int) (h15 : op = 15 → b ≤ 6) : impl_setsOf.f (k + 3) op s r m er e b = some (setsI op b) := by
  unfold impl_setsOf.f setsI
  simp only [impl_setsOf.j0, impl_setsOf.j1, impl_setsOf.j2, andNot_31_4]
  have hop : (op = 1 ∨ op = 2 ∨ op = 5 ∨ op = 6 ∨ op = 7 ∨ op = 8 ∨ op = 16 ∨ op = 17) ∨ (op = 3 ∨ op = 4) ∨ op = 11 ∨ op = 12 ∨ op = 18 ∨ op = 15 ∨ op = 19 ∨ (op ≠ 1 ∧ op ≠ 2 ∧ op ≠ 3 ∧ op ≠ 4 ∧ op ≠ 5 ∧ op ≠ 6 ∧ op ≠ 7 ∧ op ≠ 8 ∧ op ≠ 11 ∧ op ≠ 12 ∧ op ≠ 15 ∧ op ≠ 16 ∧ op ≠ 17 ∧ op ≠ 18 ∧ op ≠ 19) := by omega
  have hb : b = 0 ∨ b = 1 ∨ b = 3 ∨ b = 4 ∨ b = 5 ∨ b = 6 ∨ 7 ≤ b ∨ (b ≠ 0 ∧ b ≠ 1 ∧ b ≠ 3 ∧ b < 4) := by omega
  rcases hop with (rfl | rfl | rfl | rfl | rfl | rfl | rfl | rfl) | (rfl | rfl) | rfl | rfl | rfl | rfl | rfl | h
  case inr.inr.inr.inr.inr.inr.inr => simp [h]
  all_goals try (simp; done)
  all_goals
    rcases hb with rfl | rfl | rfl | rfl | rfl | rfl | hb | ⟨hb0, hb1, hb3, hb4⟩
    all_goals first
      | (simp [or_15_16, or_15_0, or_31_0, or_0_15, or_0_0]; done)
      | (simp [or_15_16, or_15_0, or_31_0, or_0_15, or_0_0, show ¬ b = 0 by omega, show ¬ b = 1 by omega, show ¬ b = 3 by omega, show ¬ b = 4 by omega, show ¬ b = 5 by omega, show ¬ b = 6 by omega, show 5 ≤ b by omega]; done)
      | (exfalso; have := h15 rfl; omega)
      | (simp [or_15_16, or_15_0, or_31_0, or_0_15, or_0_0, show ¬ b = 0 by omega, show ¬ b = 1 by omega, show ¬ b = 3 by omega, show ¬ b = 4 by omega, show ¬ b = 5 by omega, show ¬ b = 6 by omega, show ¬ 5 ≤ b by omega]; done)
theorem needs_all : ∀ c : Fin 16, spec_l8Needs.f (c.val : Int) = impl_needsOf.f (c.val : Int) ∧ (spec_l8Needs.f (c.val : Int)).isSome = true := by decide +kernel
theorem needs_same {c : Int} (h0 : 0 ≤ c) (h1 : c ≤ 15) : ∃ v, spec_l8Needs.f c = some v ∧ impl_needsOf.f c = some v := by
  obtain ⟨n, rfl⟩ := Int.eq_ofNat_of_zero_le h0
  obtain ⟨h, hs⟩ := needs_all ⟨n, by omega⟩
  obtain ⟨v, hv⟩ := Option.isSome_iff_exists.1 hs
  exact ⟨v, hv, h ▸ hv⟩
theorem reads_both (k : Nat) {op r b : Int} (s m er e : Int) (hr : 0 ≤ r) (hb : 0 ≤ b ∧ b ≤ 7) (h13 : op = 13 → r ≤ 1) :
    ∃ v, spec_l14Reads.f op s r m er e b = some v ∧ impl_readsOf.f (k + 1) op s r m er e b = some v := by
  by_cases ho : op = 13
  · have h1 : wrap64 (b + wrap64 (8 * r)) = b + 8 * r := by
      have := h13 ho
      rw [wrap64_id (n := 8 * r) (by omega) (by omega), wrap64_id (by omega) (by omega)]
    obtain ⟨v, e1, e2⟩ := needs_same (c := b + 8 * r) (by omega) (by have := h13 ho; omega)
    refine ⟨v, ?_, ?_⟩
    · unfold spec_l14Reads.f
      rw [if_pos ho, h1, e1]
      rfl
    · unfold impl_readsOf.f
      rw [if_pos ho, h1, e2]
      rfl
  · refine ⟨if op = 12 then (if 6 ≤ b then 16 else 0) else if op = 18 then 20 else if op = 19 then (if b = 1 then 31 else 0) else 0, ?_, ?_⟩
    · unfold spec_l14Reads.f
      simp only [lFlag_eq, Option.bind_some]
      grind
    · unfold impl_readsOf.f
      simp only [impl_readsOf.j0]
      grind
theorem lWrite_eq (op s r m er e b : Int) : spec_l14Write.f op s r m er e b = some (mayWriteB op m b) := by
  unfold spec_l14Write.f mayWriteB
  simp only [lMemory_eq, Option.bind_some]
  grind
theorem iWrite_eq {op b : Int} (s r m er e : Int) (h11 : op = 11 → b ≤ 3) : impl_mayWrite.f op s r m er e b = some (mayWriteB op m b) := by
  unfold impl_mayWrite.f mayWriteB
  simp only [isMemory_eq, Option.bind_some]
  by_cases h : op = 11
  · have e : decide (b < 3) = !decide (b = 3) := by
      have := h11 h
      rw [Bool.eq_iff_iff]
      simp
      omega
    rw [e]
    grind
  · grind
def mayFaultB (op m b : Int) : Bool := if op = 10 then false else if op = 14 then b == 1 else if op = 17 ∨ op = 18 then true else if op = 15 then decide (b ≤ 4) && b != 2 else if op = 19 then b == 0 else memB m
theorem lFault_eq (k : Nat) (op s r m er e b : Int) : spec_l14Fault.f (k + 1) op s r m er e b = some (mayFaultB op m b) := by
  unfold spec_l14Fault.f mayFaultB
  simp only [spec_l14Fault.j0, lMemory_eq, Option.bind_some]
  grind
theorem iFault_eq (k : Nat) {op b : Int} (s r m er e : Int) (h0 : 0 ≤ b) : impl_mayFault.f (k + 2) op s r m er e b = some (mayFaultB op m b) := by
  unfold impl_mayFault.f mayFaultB
  simp only [impl_mayFault.j0, impl_mayFault.j1, isMemory_eq, Option.bind_some]
  by_cases h14 : op = 14
  · subst h14
    rw [iWrite_eq s r m er e (by omega)]
    simp [mayWriteB]
  · by_cases h10 : op = 10
    · subst h10
      rw [iWrite_eq s r m er e (by omega)]
      simp [mayWriteB]
    · by_cases h15 : op = 15
      · subst h15
        have : b = 0 ∨ b = 1 ∨ b = 2 ∨ b = 3 ∨ b = 4 ∨ 5 ≤ b := by omega
        rcases this with rfl | rfl | rfl | rfl | rfl | h5
        all_goals try simp
        have e0 : ¬ b = 0 := by omega
        have e1 : ¬ b = 1 := by omega
        have e3 : ¬ b = 3 := by omega
        have e4 : ¬ b = 4 := by omega
        have e5 : ¬ b ≤ 4 := by omega
        simp [e0, e1, e3, e4, e5]
      · have hb : ∀ c : Int, (b == c) = decide (b = c) := fun _ => rfl
        grind
theorem rdII {l : List S49} {i : Nat} (h : i < l.length) : rd_T49 l (i : Int) = l[i] := by
  simp [rd_T49, h]
/-- Whether an instruction is a good one; whether it is straight. -/
def goodI (x : S49) : Bool := goodIns x.f0 x.f1 x.f2 x.f3.f0 x.f3.f1 x.f3.f2 x.f4
def strI (x : S49) : Bool := straightB x.f0 x.f4
theorem rdB {l : List Bool} {i : Nat} (h : i < l.length) : rdOf false l (i : Int) = l[i] := by
  simp [rdOf, List.getElem?_eq_getElem h]
theorem needs_rng : ∀ c : Fin 16, (spec_l8Needs.f (c.val : Int)).all (fun v => decide (0 ≤ v ∧ v ≤ 31)) = true := by decide +kernel
theorem reads_in (k : Nat) {x : S49} (h : goodI x = true) : ∃ v, spec_l14Reads.f x.f0 x.f1 x.f2 x.f3.f0 x.f3.f1 x.f3.f2 x.f4 = some v ∧ impl_readsOf.f (k + 1) x.f0 x.f1 x.f2 x.f3.f0 x.f3.f1 x.f3.f2 x.f4 = some v ∧ 0 ≤ v ∧ v ≤ 31 := by
  obtain ⟨v, e1, e2⟩ := reads_both k x.f1 x.f3.f0 x.f3.f1 x.f3.f2 (good_parts h).2.1.1 (good_parts h).2.2.1 (good_13 h)
  refine ⟨v, e1, e2, ?_⟩
  have hb := (good_parts h).2.2.1
  have hr := (good_parts h).2.1.1
  have h13 := good_13 h
  unfold spec_l14Reads.f at e1
  by_cases ho : x.f0 = 13
  · have h1 : wrap64 (x.f4 + wrap64 (8 * x.f2)) = x.f4 + 8 * x.f2 := by
      have := h13 ho
      rw [wrap64_id (n := 8 * x.f2) (by omega) (by omega), wrap64_id (by omega) (by omega)]
    rw [if_pos ho, h1] at e1
    have := needs_rng ⟨(x.f4 + 8 * x.f2).toNat, by have := h13 ho; omega⟩
    simp only [Int.toNat_of_nonneg (show 0 ≤ x.f4 + 8 * x.f2 by omega)] at this
    cases hv : spec_l8Needs.f (x.f4 + 8 * x.f2) with
    | none => rw [hv] at e1; cases e1
    | some u =>
      rw [hv] at e1 this
      simp at e1 this
      omega
  · rw [if_neg ho] at e1
    simp only [lFlag_eq, Option.bind_some] at e1
    grind
theorem need_bits : ∀ n s : Fin 32, 0 ≤ bits .andNot .i64 (n.val : Int) (s.val : Int) ∧ bits .andNot .i64 (n.val : Int) (s.val : Int) ≤ 31 ∧ bits .or .i64 (n.val : Int) (s.val : Int) = bits .or .i64 (s.val : Int) (n.val : Int) ∧
    0 ≤ bits .or .i64 (n.val : Int) (s.val : Int) ∧ bits .or .i64 (n.val : Int) (s.val : Int) ≤ 31 := by decide +kernel
theorem or_ends : ∀ n : Fin 32, bits .or .i64 (n.val : Int) 0 = (n.val : Int) ∧ bits .or .i64 (n.val : Int) 31 = 31 := by decide +kernel
/-- What is needed ahead of an instruction: the two ways to tell it are one. -/
theorem need_same {n s v : Int} (hn : 0 ≤ n ∧ n ≤ 31) (hs : 0 ≤ s ∧ s ≤ 31) (hv : 0 ≤ v ∧ v ≤ 31) (f : Bool) :
    bits .or .i64 (bits .or .i64 (bits .andNot .i64 n s) v) (if f then 31 else 0) = (if f then 31 else bits .or .i64 v (bits .andNot .i64 n s)) ∧
    0 ≤ (if f then 31 else bits .or .i64 v (bits .andNot .i64 n s)) ∧ (if f then 31 else bits .or .i64 v (bits .andNot .i64 n s)) ≤ 31 := by
  obtain ⟨a, rfl⟩ := Int.eq_ofNat_of_zero_le hn.1
  obtain ⟨b, rfl⟩ := Int.eq_ofNat_of_zero_le hs.1
  have h1 := need_bits ⟨a, by omega⟩ ⟨b, by omega⟩
  simp only at h1
  generalize bits .andNot .i64 (a : Int) (b : Int) = u at *
  obtain ⟨h10, h11, _⟩ := h1
  obtain ⟨c, rfl⟩ := Int.eq_ofNat_of_zero_le h10
  obtain ⟨d, rfl⟩ := Int.eq_ofNat_of_zero_le hv.1
  have h2 := need_bits ⟨c, by omega⟩ ⟨d, by omega⟩
  simp only at h2
  obtain ⟨_, _, h23, h24, h25⟩ := h2
  rw [← h23]
  generalize bits .or .i64 (c : Int) (d : Int) = e at *
  obtain ⟨g, rfl⟩ := Int.eq_ofNat_of_zero_le h24
  have h3 := or_ends ⟨g, by omega⟩
  simp only at h3
  cases f
  · exact ⟨h3.1, by omega, by omega⟩
  · exact ⟨h3.2, by simp, by simp⟩
theorem setsI_31 (op b : Int) : 0 ≤ setsI op b ∧ setsI op b ≤ 31 := by
  unfold setsI
  grind
theorem dead_loop (l : List S49) (hl : l.length ≤ 1048576) (hg : ∀ x ∈ l, goodI x = true) : ∀ (n : Nat) (out : List Bool) (need : Int), n ≤ l.length → out.length = l.length → 0 ≤ need ∧ need ≤ 31 →
    ∃ r : List Bool, r.length = l.length ∧ (∀ k, 2 * n + 6 < k → spec_l14Dead.l0 k l out need ((n : Int) - 1) = some r) ∧ (∀ k, 2 * n + 6 < k → impl_deadFlags.l0 k l out need ((n : Int) - 1) = some r) := by
  intro n
  induction n with
  | zero =>
    intro out need _ ho _
    refine ⟨out, ho, fun k hk => ?_, fun k hk => ?_⟩
    · obtain ⟨k, rfl⟩ : ∃ n, k = n + 1 := ⟨k - 1, by omega⟩
      rw [spec_l14Dead.l0, if_neg (by omega)]
    · obtain ⟨k, rfl⟩ : ∃ n, k = n + 1 := ⟨k - 1, by omega⟩
      rw [impl_deadFlags.l0, if_neg (by omega)]
  | succ n ih =>
    intro out need hn ho hd
    have hi : n < l.length := by omega
    have hgi : goodI l[n] = true := hg _ (List.getElem_mem hi)
    have hs := setsI_31 l[n].f0 l[n].f4
    have e1 : ((n + 1 : Nat) : Int) - 1 = (n : Int) := by omega
    have e2 : wrap64 ((n : Int) - 1) = (n : Int) - 1 := wrap64_id (by omega) (by omega)
    obtain ⟨v, hv1, _, hv⟩ := reads_in 0 hgi
    have hns := need_same hd hs hv (mayFaultB l[n].f0 l[n].f3.f0 l[n].f4)
    have hlf : ∀ k, spec_l14Fault.f (k + 1) l[n].f0 l[n].f1 l[n].f2 l[n].f3.f0 l[n].f3.f1 l[n].f3.f2 l[n].f4 = some (mayFaultB l[n].f0 l[n].f3.f0 l[n].f4) := fun k => lFault_eq k _ _ _ _ _ _ _
    have hif : ∀ k, impl_mayFault.f (k + 2) l[n].f0 l[n].f1 l[n].f2 l[n].f3.f0 l[n].f3.f1 l[n].f3.f2 l[n].f4 = some (mayFaultB l[n].f0 l[n].f3.f0 l[n].f4) := fun k => iFault_eq k _ _ _ _ _ (good_parts hgi).2.2.1.1
    have hrd : spec_l14Reads.f l[n].f0 l[n].f1 l[n].f2 l[n].f3.f0 l[n].f3.f1 l[n].f3.f2 l[n].f4 = some v ∧ ∀ k, impl_readsOf.f (k + 1) l[n].f0 l[n].f1 l[n].f2 l[n].f3.f0 l[n].f3.f1 l[n].f3.f2 l[n].f4 = some v := by
      refine ⟨hv1, fun k => ?_⟩
      obtain ⟨v', g1, g2, _⟩ := reads_in k hgi
      have : v' = v := Option.some.inj (g1.symm.trans hv1)
      exact this ▸ g2
    have hset : ∀ b : Bool, (out.set n b).length = l.length := fun b => by simp [ho]
    obtain ⟨r, hr, h1, h2⟩ := ih (out.set n (setsI l[n].f0 l[n].f4 != 0 && (bits .and .i64 (setsI l[n].f0 l[n].f4) need == 0 && !mayWriteB l[n].f0 l[n].f3.f0 l[n].f4))) _ (by omega) (hset _) ⟨hns.2.1, hns.2.2⟩
    refine ⟨r, hr, fun k hk => ?_, fun k hk => ?_⟩
    · obtain ⟨k, rfl⟩ : ∃ m, k = m + 3 := ⟨k - 3, by omega⟩
      rw [e1, show k + 3 = (k + 2) + 1 from rfl, spec_l14Dead.l0, if_pos (by omega), if_pos (by omega), if_pos (by omega), rdII hi, lSets_eq k, Option.bind_some, Int.toNat_natCast, e2]
      simp only [hrd.1, hlf (k + 1), lFlag_eq, lWrite_eq, Option.bind_some, ho, hns.1]
      have h1' := h1 (k + 2) (by omega)
      by_cases c1 : setsI l[n].f0 l[n].f4 = 0
      · rw [if_pos c1, if_pos (by omega)]
        rw [show (setsI l[n].f0 l[n].f4 != 0 && (bits .and .i64 (setsI l[n].f0 l[n].f4) need == 0 && !mayWriteB l[n].f0 l[n].f3.f0 l[n].f4)) = false by simp [c1]] at h1'
        exact h1'
      · rw [if_neg c1]
        by_cases c2 : bits .and .i64 (setsI l[n].f0 l[n].f4) need = 0
        · rw [if_pos c2, if_pos (by omega)]
          rw [show (setsI l[n].f0 l[n].f4 != 0 && (bits .and .i64 (setsI l[n].f0 l[n].f4) need == 0 && !mayWriteB l[n].f0 l[n].f3.f0 l[n].f4)) = !mayWriteB l[n].f0 l[n].f3.f0 l[n].f4 by simp [c1, c2]] at h1'
          exact h1'
        · rw [if_neg c2, if_pos (by omega)]
          rw [show (setsI l[n].f0 l[n].f4 != 0 && (bits .and .i64 (setsI l[n].f0 l[n].f4) need == 0 && !mayWriteB l[n].f0 l[n].f3.f0 l[n].f4)) = false by simp [c1, c2]] at h1'
          exact h1'
    · obtain ⟨k, rfl⟩ : ∃ m, k = m + 4 := ⟨k - 4, by omega⟩
      have hj : ∀ b : Bool, b = (setsI l[n].f0 l[n].f4 != 0 && (bits .and .i64 (setsI l[n].f0 l[n].f4) need == 0 && !mayWriteB l[n].f0 l[n].f3.f0 l[n].f4)) →
          impl_deadFlags.j1 (k + 3) l (out.set n b) need (n : Int) (setsI l[n].f0 l[n].f4) l[n].f0 l[n].f1 l[n].f2 l[n].f3.f0 l[n].f3.f1 l[n].f3.f2 l[n].f4 = some r := by
        intro b hb
        rw [show k + 3 = (k + 2) + 1 from rfl, impl_deadFlags.j1, hrd.2 (k + 1), Option.bind_some, hif k, Option.bind_some, e2, hb]
        have h2' := h2 (k + 2) (by omega)
        cases hf : mayFaultB l[n].f0 l[n].f3.f0 l[n].f4 with
        | true => rw [if_pos rfl]; simpa [hf] using h2'
        | false => rw [if_neg (by simp)]; simpa [hf] using h2'
      rw [e1, show k + 4 = (k + 3) + 1 from rfl, impl_deadFlags.l0, if_pos (by omega), if_pos (by omega), if_pos (by omega), rdII hi, iSets_eq k l[n].f1 l[n].f2 l[n].f3.f0 l[n].f3.f1 l[n].f3.f2 (good_15 hgi), Option.bind_some, Int.toNat_natCast]
      simp only [iWrite_eq l[n].f1 l[n].f2 l[n].f3.f0 l[n].f3.f1 l[n].f3.f2 (good_11 hgi), Option.bind_some, ho]
      by_cases c1 : setsI l[n].f0 l[n].f4 = 0
      · rw [if_pos c1, if_pos (by omega)]
        exact hj _ (by simp [c1])
      · rw [if_neg c1]
        by_cases c2 : bits .and .i64 (setsI l[n].f0 l[n].f4) need = 0
        · rw [if_pos c2, if_pos (by omega)]
          exact hj _ (by simp [c1, c2])
        · rw [if_neg c2, if_pos (by omega)]
          exact hj _ (by simp [c1, c2])
theorem dead_eq {l : List S49} (hl : l.length ≤ 1048576) (hg : ∀ x ∈ l, goodI x = true) : ∃ r : List Bool, r.length = l.length ∧ ∀ k, 2 * l.length + 6 < k → spec_l14Dead.f k l = some r ∧ impl_deadFlags.f k l = some r := by
  obtain ⟨r, hr, h1, h2⟩ := dead_loop l hl hg l.length (List.replicate l.length false) 31 (by omega) (by simp) (by omega)
  refine ⟨r, hr, fun k hk => ?_⟩
  unfold spec_l14Dead.f impl_deadFlags.f
  rw [if_pos (by omega), if_pos (by rw [Int.toNat_natCast]; omega), if_pos (by omega), if_pos (by rw [Int.toNat_natCast]; omega), Int.toNat_natCast, wrap64_id (by omega) (by omega)]
  exact ⟨h1 k hk, h2 k hk⟩
theorem rdMI {l : List S96} {i : Nat} (h : i < l.length) : rd_T96 l (i : Int) = l[i] := by
  simp [rd_T96, h]
theorem eqMicro_self (a b c d e f g h : Int) (i : Bool) : laws_eqMicro.f a b c d e f g h i a b c d e f g h i = some true := by simp [laws_eqMicro.f, laws_eqIns.f, laws_eqOperand.f]
theorem eqMicroS_loop (l : List S96) (hl : l.length ≤ 1048576) : ∀ (m i k : Nat), i + m = l.length → m < k → laws_eqMicroS.l0 k l l (i : Int) = some true
  | 0, i, k, h, hk => by
    obtain ⟨k, rfl⟩ : ∃ n, k = n + 1 := ⟨k - 1, by omega⟩
    rw [laws_eqMicroS.l0, if_neg (by omega)]
  | m + 1, i, k, h, hk => by
    obtain ⟨k, rfl⟩ : ∃ n, k = n + 1 := ⟨k - 1, by omega⟩
    have hi : i < l.length := by omega
    rw [laws_eqMicroS.l0, if_pos (by omega), if_pos (by omega), if_pos (by omega), eqMicro_self, Option.bind_some, if_pos rfl, stepNat hi hl]
    exact eqMicroS_loop l hl m (i + 1) k (by omega) (by omega)
theorem eqMicroS_eq {l : List S96} {k : Nat} (h : Fits k l.length) : laws_eqMicroS.f k l l = some true := by
  unfold laws_eqMicroS.f
  rw [if_pos rfl]
  exact eqMicroS_loop l h.1 l.length 0 k (by omega) h.2
theorem eqUnit_eq {l : List S96} {k : Nat} (h : Fits k l.length) (a b : Int) : laws_eqUnit.f k a b l a b l = some true := by
  unfold laws_eqUnit.f
  rw [if_pos rfl, if_pos rfl, eqMicroS_eq h, Option.bind_some, if_pos rfl]
theorem orJ {a b : Int} (j : Nat) (ha : 0 ≤ a) (hj : a * ((2 ^ j : Nat) : Int) < 9223372036854775808) (hb0 : 0 ≤ b) (hb : b < ((2 ^ j : Nat) : Int)) (hj2 : ((2 ^ j : Nat) : Int) ≤ 9223372036854775808) :
    bits .or .i64 (a * ((2 ^ j : Nat) : Int)) b = a * ((2 ^ j : Nat) : Int) + b := by
  obtain ⟨n, rfl⟩ := Int.eq_ofNat_of_zero_le ha
  obtain ⟨m, rfl⟩ := Int.eq_ofNat_of_zero_le hb0
  have hm : m < 2 ^ j := by omega
  have e : ((n : Int) * ((2 ^ j : Nat) : Int)) = ((2 ^ j * n : Nat) : Int) := by rw [Nat.mul_comm]; push_cast; rfl
  rw [e] at hj ⊢
  rw [or_nat (2 ^ j * n) m (by omega) (by omega), ← Nat.two_pow_add_eq_or_of_lt hm n]
  push_cast
  rfl
/-- How many bytes an instruction has. -/
def eW (x : S49) : Int := if x.f3.f0 ≥ 5 then 4 else 2
/-- The words of an instruction. -/
def words1 (x : S49) : List Int := if x.f3.f0 ≥ 5 then [x.f0 * 2048 + (x.f1 - 1) * 1024 + x.f2 * 256 + x.f3.f0 * 32 + x.f3.f1 * 8 + x.f4, x.f3.f2] else [x.f0 * 2048 + (x.f1 - 1) * 1024 + x.f2 * 256 + x.f3.f0 * 32 + x.f3.f1 * 8 + x.f4]
theorem words1_len (x : S49) : 2 * ((words1 x).length : Int) = eW x := by
  unfold words1 eW
  by_cases h : x.f3.f0 ≥ 5 <;> simp [h]
theorem good_ranges {x : S49} (h : goodI x = true) : (1 ≤ x.f0 ∧ x.f0 ≤ 19) ∧ (1 ≤ x.f1 ∧ x.f1 ≤ 2) ∧ (0 ≤ x.f2 ∧ x.f2 ≤ 3) ∧ (0 ≤ x.f3.f0 ∧ x.f3.f0 ≤ 7) ∧ (0 ≤ x.f3.f1 ∧ x.f3.f1 ≤ 3) ∧ (0 ≤ x.f4 ∧ x.f4 ≤ 7) := by
  have hp := good_parts h
  have he := hp.2.2.2.1
  have hk := hp.2.2.2.2
  refine ⟨?_, by omega, hp.2.1, ?_, ?_, hp.2.2.1⟩
  · by_cases hr : 1 ≤ x.f0 ∧ x.f0 ≤ 19
    · exact hr
    · exfalso
      unfold kindB at hk
      simp [show ¬ x.f0 = 1 by omega, show ¬ x.f0 = 2 by omega, show ¬ x.f0 = 3 by omega, show ¬ x.f0 = 4 by omega, show ¬ x.f0 = 5 by omega, show ¬ x.f0 = 6 by omega, show ¬ x.f0 = 7 by omega, show ¬ x.f0 = 8 by omega, show ¬ x.f0 = 9 by omega, show ¬ x.f0 = 10 by omega, show ¬ x.f0 = 11 by omega, show ¬ x.f0 = 12 by omega, show ¬ x.f0 = 13 by omega, show ¬ x.f0 = 14 by omega, show ¬ x.f0 = 15 by omega, show ¬ x.f0 = 16 by omega, show ¬ x.f0 = 17 by omega, show ¬ x.f0 = 18 by omega, show ¬ x.f0 = 19 by omega] at hk
  · unfold goodEa at he
    grind
  · unfold goodEa at he
    grind
theorem iEncode_eq {x : S49} (h : goodI x = true) : impl_encoded.f x.f0 x.f1 x.f2 x.f3.f0 x.f3.f1 x.f3.f2 x.f4 = some (words1 x) := by
  obtain ⟨h0, h1, h2, h3, h4, h5⟩ := good_ranges h
  unfold impl_encoded.f impl_needsExt.f words1
  rw [wrap64_id (n := x.f0 * 2048) (by omega) (by omega), wrap64_id (n := x.f1 - 1) (by omega) (by omega), wrap64_id (n := (x.f1 - 1) * 1024) (by omega) (by omega), wrap64_id (n := x.f2 * 256) (by omega) (by omega), wrap64_id (n := x.f3.f0 * 32) (by omega) (by omega), wrap64_id (n := x.f3.f1 * 8) (by omega) (by omega),
    wrap64_id (n := x.f0 * 2048 + (x.f1 - 1) * 1024) (by omega) (by omega), wrap64_id (n := x.f0 * 2048 + (x.f1 - 1) * 1024 + x.f2 * 256) (by omega) (by omega), wrap64_id (n := x.f0 * 2048 + (x.f1 - 1) * 1024 + x.f2 * 256 + x.f3.f0 * 32) (by omega) (by omega), wrap64_id (n := x.f0 * 2048 + (x.f1 - 1) * 1024 + x.f2 * 256 + x.f3.f0 * 32 + x.f3.f1 * 8) (by omega) (by omega), wrap64_id (n := x.f0 * 2048 + (x.f1 - 1) * 1024 + x.f2 * 256 + x.f3.f0 * 32 + x.f3.f1 * 8 + x.f4) (by omega) (by omega)]
  rcases (by omega : x.f3.f0 = 5 ∨ x.f3.f0 = 6 ∨ x.f3.f0 = 7 ∨ x.f3.f0 < 5) with hm | hm | hm | hm
  · simp [hm]
  · simp [hm]
  · simp [hm]
  · simp [show ¬ x.f3.f0 = 5 by omega, show ¬ x.f3.f0 = 6 by omega, show ¬ x.f3.f0 = 7 by omega, show ¬ 5 ≤ x.f3.f0 by omega]
/-- Where instructions end that begin at a place. -/
def endOf (a : Int) : List S96 → Int
  | [] => a
  | m :: l => endOf (a + eW m.f0) l
/-- Good micros, one behind the other, from a place on. -/
def gAts (a : Int) : List S96 → Bool
  | [] => true
  | m :: l => goodI m.f0 && (decide (m.f1 = a) && gAts (a + eW m.f0) l)
/-- Good micros, straight ones all but the last. -/
def gStr : List S96 → Bool
  | [] => true
  | [m] => goodI m.f0
  | m :: (n :: l) => goodI m.f0 && (strI m.f0 && gStr (n :: l))
/-- Micros of instructions and skips from a place on. -/
def mkU (a : Int) : List S49 → List Bool → List S96
  | x :: xs, s :: ss => ⟨x, a, s⟩ :: mkU (a + eW x) xs ss
  | _, _ => []
theorem eW_in (x : S49) : eW x = 2 ∨ eW x = 4 := by unfold eW; split <;> simp
theorem endOf_in (l : List S96) : ∀ a, a ≤ endOf a l ∧ endOf a l ≤ a + 4 * (l.length : Int) := by
  induction l with
  | nil => intro a; simp [endOf]
  | cons m l ih =>
    intro a
    have := ih (a + eW m.f0)
    have h := eW_in m.f0
    simp only [endOf, List.length_cons]
    omega
theorem lIns_go (L : List S96) (hL : L.length ≤ 1048576) : ∀ (d i k : Nat) (X : List S49) (c : Int), i + d = L.length → X.length + d ≤ 1048576 → 0 ≤ c ∧ c ≤ X.length → d < k →
    spec_l15List.l0 (k + 1) X c L (L.length : Int) (i : Int) = some (X ++ (L.drop i).map (·.f0), c + ((((L.drop i).map (·.f0)).countP strI : Nat) : Int)) := by
  intro d
  induction d with
  | zero =>
    intro i k X c hi _ _ hk
    rw [spec_l15List.l0, if_neg (by omega), List.drop_of_length_le (by omega)]
    simp
  | succ d ih =>
    intro i k X c hi hx hc hk
    have hlt : i < L.length := by omega
    obtain ⟨k, rfl⟩ : ∃ m, k = m + 1 := ⟨k - 1, by omega⟩
    rw [spec_l15List.l0, if_pos (by omega), if_pos (by omega), if_pos (by omega), if_pos (by omega), Option.bind_some, rdMI hlt, lStraight_eq k, Option.bind_some, stepNat hlt hL, List.drop_eq_getElem_cons hlt, wrap64_id (n := c + 1) (by omega) (by omega)]
    change (if strI L[i].f0 = true then _ else _) = _
    cases hs : strI L[i].f0 with
    | true =>
      rw [if_pos rfl]
      refine (ih (i + 1) k (X ++ [L[i].f0]) (c + 1) (by omega) (by simp; omega) (by simp; omega) (by omega)).trans ?_
      simp [-List.map_drop, -List.getElem_cons_drop, hs]
      omega
    | false =>
      rw [if_neg (by simp)]
      refine (ih (i + 1) k (X ++ [L[i].f0]) c (by omega) (by simp; omega) (by simp; omega) (by omega)).trans ?_
      simp [-List.map_drop, -List.getElem_cons_drop, hs]
theorem lIns_eq (a b : Int) {L : List S96} (hL : L.length ≤ 1048576) {k : Nat} (hk : L.length < k) : spec_l15List.f (k + 1) a b L = some (L.map (·.f0), (((L.map (·.f0)).countP strI : Nat) : Int)) := by
  unfold spec_l15List.f
  have := lIns_go L hL L.length 0 k [] 0 (by omega) (by simp; omega) (by simp) hk
  simpa using this
def endI (a : Int) : List S49 → Int
  | [] => a
  | x :: l => endI (a + eW x) l
theorem endOf_map (l : List S96) : ∀ a, endOf a l = endI a (l.map (·.f0)) := by
  induction l with
  | nil => intro a; rfl
  | cons m l ih => intro a; simp only [endOf, List.map_cons, endI]; exact ih _
theorem unitOf_go (row : List S49) (dead : List Bool) (X : List S49) (hX : X.length ≤ 1048576) (hg : ∀ x ∈ X, goodI x = true) (hd : dead.length = row.length) (sk : List Bool) (hs : sk.length = X.length)
    (hsk : ∀ i (h : i < sk.length), sk[i] = if h2 : i < dead.length then dead[i] else false) (p : Int) : ∀ (d i k : Nat) (a : Int) (acc : List S96), i + d = X.length → acc.length + d ≤ 1048576 → 0 ≤ a → a + 4 * (d : Int) ≤ 4611686018427387904 → d < k →
    impl_unitOf.l0 k row dead X (X.length : Int) (i : Int) p a acc = some (p, endI a (X.drop i), acc ++ mkU a (X.drop i) (sk.drop i)) := by
  intro d
  induction d with
  | zero =>
    intro i k a acc hi _ _ _ hk
    obtain ⟨k, rfl⟩ : ∃ m, k = m + 1 := ⟨k - 1, by omega⟩
    rw [impl_unitOf.l0, if_neg (by omega), List.drop_of_length_le (by omega)]
    simp [endI, mkU]
  | succ d ih =>
    intro i k a acc hi hacc ha hb hk
    have hlt : i < X.length := by omega
    have hlt2 : i < sk.length := by omega
    have hw := eW_in X[i]
    have hgi : goodI X[i] = true := hg _ (List.getElem_mem hlt)
    obtain ⟨k, rfl⟩ : ∃ m, k = m + 1 := ⟨k - 1, by omega⟩
    have hlen := words1_len X[i]
    rw [impl_unitOf.l0, if_pos (by omega), if_pos (by omega), if_pos (by omega), rdII hlt, stepNat hlt hX, List.drop_eq_getElem_cons hlt, List.drop_eq_getElem_cons hlt2, iEncode_eq hgi]
    simp only [Option.bind_some, endI, mkU]
    rw [wrap64_id (n := 2 * ((words1 X[i]).length : Int)) (by omega) (by omega), hlen, wrap64_id (n := a + eW X[i]) (by omega) (by omega)]
    have hsi := hsk i hlt2
    by_cases hr : (i : Int) < (row.length : Int)
    · rw [if_pos hr, if_pos (by omega), if_pos (by omega), rdB (show i < dead.length by omega)]
      rw [dif_pos (show i < dead.length by omega)] at hsi
      rw [← hsi]
      refine (ih (i + 1) k (a + eW X[i]) (acc ++ [⟨X[i], a, sk[i]⟩]) (by omega) (by simp; omega) (by omega) (by omega) (by omega)).trans ?_
      simp
    · rw [if_neg hr, if_pos (by omega)]
      rw [dif_neg (show ¬ i < dead.length by omega)] at hsi
      rw [hsi]
      refine (ih (i + 1) k (a + eW X[i]) (acc ++ [⟨X[i], a, false⟩]) (by omega) (by simp; omega) (by omega) (by omega) (by omega)).trans ?_
      simp
/-- The skips of good instructions, as both tell them. -/
theorem skips_both {X : List S49} (h0 : X ≠ []) (hX : X.length ≤ 1048576) (hg : ∀ x ∈ X, goodI x = true) : ∃ sk : List Bool, sk.length = X.length ∧ (∀ k, 2 * X.length + 20 < k → spec_l15Skips.f k X = some sk) ∧
    (∀ k a, 0 ≤ a ∧ a ≤ 1048576 → 2 * X.length + 20 < k → impl_unitOf.f k X a = some (a, endI a X, mkU a X sk)) := by
  have hl : 0 < X.length := List.length_pos_iff.mpr h0
  have e1 : wrap64 ((X.length : Int) - 1) = ((X.length - 1 : Nat) : Int) := by rw [wrap64_id (by omega) (by omega)]; omega
  have hlast : X.length - 1 < X.length := by omega
  cases hs : strI X[X.length - 1] with
  | true =>
    obtain ⟨r, hr, hd⟩ := dead_eq hX hg
    refine ⟨r, hr, fun k hk => ?_, fun k a ha hk => ?_⟩
    · obtain ⟨k, rfl⟩ : ∃ m, k = m + 1 := ⟨k - 1, by omega⟩
      unfold spec_l15Skips.f
      rw [if_pos (by omega), e1, if_pos (by omega), if_pos (by omega), rdII hlast, lStraight_eq k, Option.bind_some]
      change spec_l15Skips.j0 (k + 1) X (X.length : Int) (!strI X[X.length - 1]) = _
      rw [hs, spec_l15Skips.j0, if_neg (by simp), (hd k (by omega)).1]
      rfl
    · obtain ⟨k, rfl⟩ : ∃ m, k = m + 1 := ⟨k - 1, by omega⟩
      unfold impl_unitOf.f
      rw [e1, if_pos (by omega), if_pos (by omega), rdII hlast, iStraight_eq k, Option.bind_some]
      change (if strI X[X.length - 1] = true then _ else _) = _
      rw [if_pos hs, impl_unitOf.j0, (hd k (by omega)).2, Option.bind_some]
      have := unitOf_go X r X hX hg hr r hr (fun i h => by rw [dif_pos h]) a X.length 0 k a [] (by omega) (by simp; omega) ha.1 (by omega) (by omega)
      simpa using this
  | false =>
    have ht : (X.take (X.length - 1)).length = X.length - 1 := by simp
    obtain ⟨r, hr, hd⟩ := dead_eq (l := X.take (X.length - 1)) (by omega) (fun x hx => hg x (List.mem_of_mem_take hx))
    refine ⟨r ++ [false], by simp; omega, fun k hk => ?_, fun k a ha hk => ?_⟩
    · obtain ⟨k, rfl⟩ : ∃ m, k = m + 1 := ⟨k - 1, by omega⟩
      unfold spec_l15Skips.f
      rw [if_pos (by omega), e1, if_pos (by omega), if_pos (by omega), rdII hlast, lStraight_eq k, Option.bind_some]
      change spec_l15Skips.j0 (k + 1) X (X.length : Int) (!strI X[X.length - 1]) = _
      rw [hs, spec_l15Skips.j0, if_pos (by simp), e1, if_pos (by omega), if_pos (by omega), Int.toNat_natCast, (hd k (by omega)).1, Option.bind_some, if_pos (by omega)]
    · obtain ⟨k, rfl⟩ : ∃ m, k = m + 1 := ⟨k - 1, by omega⟩
      unfold impl_unitOf.f
      rw [e1, if_pos (by omega), if_pos (by omega), rdII hlast, iStraight_eq k, Option.bind_some]
      change (if strI X[X.length - 1] = true then _ else _) = _
      rw [if_neg (by simp [hs]), if_pos (by omega), Int.toNat_natCast, impl_unitOf.j0, (hd k (by omega)).2, Option.bind_some]
      have := unitOf_go (X.take (X.length - 1)) r X hX hg hr (r ++ [false]) (by simp; omega) (fun i h => by
        by_cases h2 : i < r.length
        · rw [dif_pos h2, List.getElem_append_left h2]
        · rw [dif_neg h2]
          simp at h
          rw [List.getElem_append_right (by omega)]
          simp) a X.length 0 k a [] (by omega) (by simp; omega) ha.1 (by omega) (by omega)
      simpa using this
/-- The numbers a, a + 1, .. -/
def upto (a : Int) : Nat → List Int
  | 0 => []
  | n + 1 => a :: upto (a + 1) n
theorem upto_length (a : Int) (n : Nat) : (upto a n).length = n := by
  induction n generalizing a with
  | zero => rfl
  | succ n ih => simp [upto, ih]
theorem rd_at (l : List Int) (i : Nat) (h : i < l.length) : rd l (i : Int) = l[i] := by
  simp [rd, List.getElem?_eq_getElem h]
theorem eqIntS_l0 (l : List Int) (hl : l.length ≤ 4611686018427387904) : ∀ (d k i : Nat), i + d = l.length → d < k → laws_eqIntS.l0 k l l (i : Int) = some true := by
  intro d
  induction d with
  | zero =>
    intro k i hi hk
    obtain ⟨k, rfl⟩ : ∃ m, k = m + 1 := ⟨k - 1, by omega⟩
    simp only [laws_eqIntS.l0]
    rw [if_neg (by omega)]
  | succ d ih =>
    intro k i hi hk
    obtain ⟨k, rfl⟩ : ∃ m, k = m + 1 := ⟨k - 1, by omega⟩
    simp only [laws_eqIntS.l0]
    rw [if_pos (by omega), if_pos (by omega), if_pos (by omega), if_pos trivial, wrap64_id (by omega) (by omega), show ((i : Int) + 1) = ((i + 1 : Nat) : Int) by omega]
    exact ih k (i + 1) (by omega) (by omega)
theorem eqIntS_self (l : List Int) (hl : l.length ≤ 4611686018427387904) (k : Nat) (hk : l.length < k) : laws_eqIntS.f k l l = some true := by
  unfold laws_eqIntS.f
  rw [if_pos rfl]
  exact eqIntS_l0 l hl l.length k 0 (by omega) hk
theorem markIntS_l0 (n : Nat) (hn : n ≤ 4611686018427387904) : ∀ (d k i : Nat) (a : Int) (x : List Int), x.length = n → i + d = n → d < k → 0 ≤ a → a ≤ 4611686018427387904 - (d : Int) →
    laws_markIntS.l0 k x a (i : Int) = some (a + (d : Int), x.take i ++ upto a d) := by
  intro d
  induction d with
  | zero =>
    intro k i a x hx hi hk _ _
    obtain ⟨k, rfl⟩ : ∃ m, k = m + 1 := ⟨k - 1, by omega⟩
    simp only [laws_markIntS.l0]
    rw [if_neg (by omega)]
    simp [upto, List.take_of_length_le (show x.length ≤ i by omega)]
  | succ d ih =>
    intro k i a x hx hi hk ha hb
    obtain ⟨k, rfl⟩ : ∃ m, k = m + 1 := ⟨k - 1, by omega⟩
    simp only [laws_markIntS.l0]
    rw [if_pos (by omega), if_pos (by omega), wrap64_id (n := a + 1) (by omega) (by omega), wrap64_id (by omega) (by omega)]
    have hset : (x.set i a).take (i + 1) = x.take i ++ [a] := by
      rw [List.take_succ_eq_append_getElem (by simp; omega), List.take_set, List.set_eq_of_length_le (by simp; omega)]
      simp
    have := ih k (i + 1) (a + 1) (x.set i a) (by simp [hx]) (by omega) (by omega) (by omega) (by omega)
    rw [hset] at this
    simp only [Int.toNat_natCast]
    rw [show ((i : Int) + 1) = ((i + 1 : Nat) : Int) by omega, this]
    simp [upto]
    omega
theorem markIntS_eq (x : List Int) (a : Int) (k : Nat) (hk : x.length < k) (ha : 0 ≤ a) (hb : a + (x.length : Int) ≤ 4611686018427387904) :
    laws_markIntS.f k x a = some (a + (x.length : Int), upto a x.length) := by
  unfold laws_markIntS.f
  have := markIntS_l0 x.length (by omega) x.length k 0 a x rfl (by omega) hk ha (by omega)
  simpa using this
def uptoA (a : Int) : Nat → List S89
  | 0 => []
  | n + 1 => ⟨a, a + 1, a + 1 + 1, a + 1 + 1 + 1, a + 1 + 1 + 1 + 1⟩ :: uptoA (a + 5) n
theorem uptoA_length (a : Int) (n : Nat) : (uptoA a n).length = n := by
  induction n generalizing a with
  | zero => rfl
  | succ n ih => simp [uptoA, ih]
theorem rdSetA {x : List S89} {i : Nat} (e : S89) (h : i < x.length) : rd_T89 (x.set i e) (i : Int) = e := by
  rw [rdA (by simpa using h)]
  simp
theorem w5 {a : Int} (h0 : 0 ≤ a) (h1 : a ≤ 4611686018427387904) : wrap64 (a + 1) = a + 1 := wrap64_id (by omega) (by omega)
theorem markA_l0 (n : Nat) (hn : n ≤ 1048576) : ∀ (d k i : Nat) (a : Int) (x : List S89), x.length = n → i + d = n → d < k → 0 ≤ a → a + 5 * (d : Int) ≤ 4611686018427387904 →
    laws_markAccessS.l0 k x a (i : Int) = some (a + 5 * (d : Int), x.take i ++ uptoA a d) := by
  intro d
  induction d with
  | zero =>
    intro k i a x hx hi hk _ _
    obtain ⟨k, rfl⟩ : ∃ m, k = m + 1 := ⟨k - 1, by omega⟩
    rw [laws_markAccessS.l0, if_neg (by omega)]
    simp [uptoA, List.take_of_length_le (show x.length ≤ i by omega)]
  | succ d ih =>
    intro k i a x hx hi hk ha hb
    obtain ⟨k, rfl⟩ : ∃ m, k = m + 1 := ⟨k - 1, by omega⟩
    have hlt : i < x.length := by omega
    rw [laws_markAccessS.l0, if_pos (by omega), if_pos (by omega)]
    simp only [Option.bind_some, Int.toNat_natCast, List.set_set, rdSetA _ hlt]
    rw [w5 ha (by omega), w5 (a := a + 1) (by omega) (by omega), w5 (a := a + 1 + 1) (by omega) (by omega), w5 (a := a + 1 + 1 + 1) (by omega) (by omega), w5 (a := a + 1 + 1 + 1 + 1) (by omega) (by omega), stepNat (n := n) (by omega) hn]
    have hset : ∀ e : S89, (x.set i e).take (i + 1) = x.take i ++ [e] := by
      intro e
      rw [List.take_succ_eq_append_getElem (by simp; omega), List.take_set, List.set_eq_of_length_le (by simp; omega)]
      simp
    have := ih k (i + 1) (a + 1 + 1 + 1 + 1 + 1) (x.set i ⟨a, a + 1, a + 1 + 1, a + 1 + 1 + 1, a + 1 + 1 + 1 + 1⟩) (by simp [hx]) (by omega) (by omega) (by omega) (by omega)
    rw [this, hset, show a + 1 + 1 + 1 + 1 + 1 = a + 5 from by omega]
    simp [uptoA]
    omega
theorem markA_eq (x : List S89) (hx : x.length ≤ 1048576) (a : Int) (k : Nat) (hk : x.length < k) (ha : 0 ≤ a) (hb : a + 5 * (x.length : Int) ≤ 4611686018427387904) :
    laws_markAccessS.f k x a = some (a + 5 * (x.length : Int), uptoA a x.length) := by
  unfold laws_markAccessS.f
  have := markA_l0 x.length hx x.length k 0 a x rfl (by omega) hk ha hb
  simpa using this
theorem w1M {a : Int} (h0 : 0 ≤ a) (h1 : a ≤ 4611686018427387904) : wrap64 (a + 1) = a + 1 := wrap64_id (by omega) (by omega)
/-- A micro that is marked from a number on. -/
def mM (a : Int) : S96 := ⟨⟨a, a + 1, a + 1 + 1, ⟨a + 1 + 1 + 1, a + 1 + 1 + 1 + 1, a + 1 + 1 + 1 + 1 + 1⟩, a + 1 + 1 + 1 + 1 + 1 + 1⟩, a + 1 + 1 + 1 + 1 + 1 + 1 + 1, (Int.tmod (a + 1 + 1 + 1 + 1 + 1 + 1 + 1 + 1) 3) == 0⟩
def uptoM (a : Int) : Nat → List S96
  | 0 => []
  | n + 1 => mM a :: uptoM (a + 9) n
theorem uptoM_length (a : Int) (n : Nat) : (uptoM a n).length = n := by
  induction n generalizing a with
  | zero => rfl
  | succ n ih => simp [uptoM, ih]
theorem rdSetM {x : List S96} {i : Nat} (e : S96) (h : i < x.length) : rd_T96 (x.set i e) (i : Int) = e := by
  rw [rdMI (by simpa using h)]
  simp
theorem markM_l0 (n : Nat) (hn : n ≤ 1048576) : ∀ (d k i : Nat) (a : Int) (x : List S96), x.length = n → i + d = n → d < k → 0 ≤ a → a + 9 * (d : Int) ≤ 4611686018427387904 →
    laws_markMicroS.l0 k x a (i : Int) = some (a + 9 * (d : Int), x.take i ++ uptoM a d) := by
  intro d
  induction d with
  | zero =>
    intro k i a x hx hi hk _ _
    obtain ⟨k, rfl⟩ : ∃ m, k = m + 1 := ⟨k - 1, by omega⟩
    rw [laws_markMicroS.l0, if_neg (by omega)]
    simp [uptoM, List.take_of_length_le (show x.length ≤ i by omega)]
  | succ d ih =>
    intro k i a x hx hi hk ha hb
    obtain ⟨k, rfl⟩ : ∃ m, k = m + 1 := ⟨k - 1, by omega⟩
    have hlt : i < x.length := by omega
    rw [laws_markMicroS.l0, if_pos (by omega), if_pos (by omega)]
    simp only [Option.bind_some, Int.toNat_natCast, List.set_set, rdSetM _ hlt]
    rw [w1M ha (by omega), w1M (a := a + 1) (by omega) (by omega), w1M (a := a + 1 + 1) (by omega) (by omega), w1M (a := a + 1 + 1 + 1) (by omega) (by omega), w1M (a := a + 1 + 1 + 1 + 1) (by omega) (by omega), w1M (a := a + 1 + 1 + 1 + 1 + 1) (by omega) (by omega), w1M (a := a + 1 + 1 + 1 + 1 + 1 + 1) (by omega) (by omega), w1M (a := a + 1 + 1 + 1 + 1 + 1 + 1 + 1) (by omega) (by omega), w1M (a := a + 1 + 1 + 1 + 1 + 1 + 1 + 1 + 1) (by omega) (by omega), stepNat (n := n) (by omega) hn]
    have hset : ∀ e : S96, (x.set i e).take (i + 1) = x.take i ++ [e] := by
      intro e
      rw [List.take_succ_eq_append_getElem (by simp; omega), List.take_set, List.set_eq_of_length_le (by simp; omega)]
      simp
    have := ih k (i + 1) (a + 1 + 1 + 1 + 1 + 1 + 1 + 1 + 1 + 1) (x.set i (mM a)) (by simp [hx]) (by omega) (by omega) (by omega) (by omega)
    refine this.trans ?_
    rw [hset, show a + 1 + 1 + 1 + 1 + 1 + 1 + 1 + 1 + 1 = a + 9 from by omega]
    simp [uptoM]
    omega
theorem markM_eq (x : List S96) (hx : x.length ≤ 1048576) (a : Int) (k : Nat) (hk : x.length < k) (ha : 0 ≤ a) (hb : a + 9 * (x.length : Int) ≤ 4611686018427387904) :
    laws_markMicroS.f k x a = some (a + 9 * (x.length : Int), uptoM a x.length) := by
  unfold laws_markMicroS.f
  have := markM_l0 x.length hx x.length k 0 a x rfl (by omega) hk ha hb
  simpa using this
theorem heldM_l0 (x : List S96) (hx : x.length ≤ 1048576) : ∀ (d k i : Nat) (a : Int), x.drop i = uptoM a d → i + d = x.length → d < k → 0 ≤ a → a + 9 * (d : Int) ≤ 4611686018427387904 →
    laws_heldMicroS.l0 k x a (i : Int) = some (a + 9 * (d : Int)) := by
  intro d
  induction d with
  | zero =>
    intro k i a _ hi hk _ _
    obtain ⟨k, rfl⟩ : ∃ m, k = m + 1 := ⟨k - 1, by omega⟩
    rw [laws_heldMicroS.l0, if_neg (by omega)]
    simp
  | succ d ih =>
    intro k i a hd hi hk ha hb
    obtain ⟨k, rfl⟩ : ∃ m, k = m + 1 := ⟨k - 1, by omega⟩
    have hlt : i < x.length := by omega
    rw [List.drop_eq_getElem_cons hlt, uptoM] at hd
    injection hd with h1 h2
    rw [laws_heldMicroS.l0, if_pos (by omega), if_pos (by omega), rdMI hlt, h1]
    rw [w1M ha (by omega), w1M (a := a + 1) (by omega) (by omega), w1M (a := a + 1 + 1) (by omega) (by omega), w1M (a := a + 1 + 1 + 1) (by omega) (by omega), w1M (a := a + 1 + 1 + 1 + 1) (by omega) (by omega), w1M (a := a + 1 + 1 + 1 + 1 + 1) (by omega) (by omega), w1M (a := a + 1 + 1 + 1 + 1 + 1 + 1) (by omega) (by omega), w1M (a := a + 1 + 1 + 1 + 1 + 1 + 1 + 1) (by omega) (by omega), w1M (a := a + 1 + 1 + 1 + 1 + 1 + 1 + 1 + 1) (by omega) (by omega), stepNat hlt hx]
    simp only [mM, if_true, bne_self_eq_false, Bool.false_eq_true, if_false]
    have := ih k (i + 1) (a + 1 + 1 + 1 + 1 + 1 + 1 + 1 + 1 + 1) (by rw [h2]; congr 1; omega) (by omega) (by omega) (by omega) (by omega)
    rw [this]
    congr 1
    omega
theorem heldM_eq (n : Nat) (hn : n ≤ 1048576) (a : Int) (k : Nat) (hk : n < k) (ha : 0 ≤ a) (hb : a + 9 * (n : Int) ≤ 4611686018427387904) :
    laws_heldMicroS.f k (uptoM a n) a = some (a + 9 * (n : Int)) := by
  unfold laws_heldMicroS.f
  have := heldM_l0 (uptoM a n) (by rw [uptoM_length]; exact hn) n k 0 a (by simp) (by rw [uptoM_length]; omega) hk ha hb
  simpa using this
/-- The word of two bytes. -/
def wordB (l : List Int) (a : Int) : Int := Go.bits .or .i64 (wrap64 ((rd l a) * 256)) (rd l (wrap64 (a + 1)))
theorem wordB_nonneg {l : List Int} (hb : ∀ x ∈ l, 0 ≤ x ∧ x ≤ 255) {i : Nat} (h : i + 1 < l.length) (hl : l.length ≤ 1048576) : 0 ≤ wordB l (i : Int) := by
  have h1 := hb l[i] (List.getElem_mem (by omega))
  have h2 := hb l[i + 1] (List.getElem_mem h)
  unfold wordB
  rw [stepNat (i := i) (n := l.length) (by omega) hl, rdI (i := i) (by omega), rdI h, wrap64_id (by omega) (by omega)]
  generalize l[i] = x at h1 ⊢
  generalize l[i + 1] = y at h2 ⊢
  obtain ⟨n, rfl⟩ : ∃ n : Nat, x = n := ⟨x.toNat, by omega⟩
  obtain ⟨m, rfl⟩ : ∃ m : Nat, y = m := ⟨y.toNat, by omega⟩
  have := or_nat (n * 256) m (by omega) (by omega)
  rw [Int.natCast_mul] at this
  rw [show ((n : Int) * 256) = (n : Int) * ((256 : Nat) : Int) from rfl, this]
  omega
/-- Does a word lie there that may be fetched? -/
def thereB (a : Int) : Bool := decide (codeB 3 2 a = 0)
theorem codeB_13 (a : Int) : codeB 1 2 a = codeB 3 2 a := by
  unfold codeB
  simp
theorem isThere_eq (k : Nat) {a : Int} (ha : 0 ≤ a ∧ a ≤ 65535) : impl_isThere.f (k + 3) a = some (thereB a) := by
  unfold impl_isThere.f thereB
  rw [iCode_eq k (Or.inr rfl) ha, Option.bind_some]
  by_cases h : codeB 3 2 a = 0 <;> simp [h]
theorem l15Word_eq (k : Nat) {l8 : List Int} {l9 : List S89} (h8 : l8.length = 512) {i : Nat} (hi : i ≤ 60000) :
    spec_l15Word.f (k + 3) l8 l9 (i : Int) = some (if i + 1 < 512 ∧ thereB (i : Int) = true then wordB l8 (i : Int) else -1) := by
  unfold spec_l15Word.f
  rw [wrap64_id (n := (i : Int) + 1) (by omega) (by omega)]
  by_cases h1 : i + 1 < 512
  · rw [if_neg (by omega), lCode_eq k (Or.inr rfl) (by omega), Option.bind_some, codeB_13]
    by_cases h2 : codeB 3 2 (i : Int) = 0
    · rw [if_pos h2, if_pos (by omega), if_pos (by omega), if_pos (by omega), if_pos (by omega), if_pos ⟨h1, by simp [thereB, h2]⟩]
      unfold wordB
      rw [wrap64_id (n := (i : Int) + 1) (by omega) (by omega)]
    · rw [if_neg h2, if_neg (by simp [thereB, h2])]
  · rw [if_pos (by omega), if_neg (by omega)]
/-- How many words an instruction has that begins with a word. -/
def longB (w : Int) : Int := if (w / 32) % 8 ≥ 5 then 2 else 1
theorem lLong_eq (w : Int) : spec_l7Long.f w = some (longB w) := by
  unfold spec_l7Long.f longB
  rw [lExt_eq, and_7, Option.bind_some]
  by_cases h : 5 ≤ (w / 32) % 8 <;> simp [h]
theorem iLong_eq (w : Int) : impl_longOf.f w = some (longB w) := by
  unfold impl_longOf.f longB impl_flag.f
  rw [needsExt_eq, and_7, Option.bind_some]
  by_cases h : 5 ≤ (w / 32) % 8
  · rw [decide_eq_true (by omega), if_pos rfl, if_pos h, Option.bind_some, wrap64_id (by omega) (by omega)]
    rfl
  · rw [decide_eq_false (by omega), if_neg (by simp), if_neg h, Option.bind_some, wrap64_id (by omega) (by omega)]
    rfl
/-- The instruction of a word and the one behind it. -/
def decI (w n : Int) : S49 := ⟨w / 2048, wrap64 ((Go.bits .and .i64 (w / 1024) 1) + 1), Go.bits .and .i64 (w / 256) 3, ⟨Go.bits .and .i64 (w / 32) 7, Go.bits .and .i64 (w / 8) 3, if longB w = 2 then n else 0⟩, Go.bits .and .i64 w 7⟩
theorem lDecode_eq (w n : Int) : spec_l7Decode.f w n = some ((decI w n).f0, (decI w n).f1, (decI w n).f2, (decI w n).f3.f0, (decI w n).f3.f1, (decI w n).f3.f2, (decI w n).f4) := by
  unfold spec_l7Decode.f decI
  rw [lLong_eq, Option.bind_some]
  by_cases h : longB w = 2 <;> simp [h]
theorem iDecode_eq (w n : Int) : impl_decoded.f w n = some ((decI w n).f0, (decI w n).f1, (decI w n).f2, (decI w n).f3.f0, (decI w n).f3.f1, (decI w n).f3.f2, (decI w n).f4) := by
  unfold impl_decoded.f decI
  rw [iLong_eq, Option.bind_some]
  by_cases h : longB w = 2 <;> simp [h]
theorem eW_dec (w n : Int) : eW (decI w n) = 2 * longB w := by
  unfold eW decI longB
  rw [and_7]
  by_cases h : (w / 32) % 8 ≥ 5 <;> simp [h]
/-- The skips put to a list of micros. -/
def putSk : List Bool → List S96 → List S96
  | s :: ss, m :: ms => ⟨m.f0, m.f1, s⟩ :: putSk ss ms
  | _, ms => ms
theorem lT_go (sk : List Bool) (hs : sk.length ≤ 1048576) (p0 p1 : Int) : ∀ (d i k : Nat) (A B : List S96), i + d = sk.length → A.length = i → B.length = d → d < k →
    spec_l15Translate.l1 k sk (sk.length : Int) (i : Int) p0 p1 (A ++ B) = some (p0, p1, A ++ putSk (sk.drop i) B, true) := by
  intro d
  induction d with
  | zero =>
    intro i k A B hi hA hB hk
    obtain ⟨k, rfl⟩ : ∃ m, k = m + 1 := ⟨k - 1, by omega⟩
    obtain rfl := List.eq_nil_of_length_eq_zero hB
    rw [spec_l15Translate.l1, if_neg (by omega), List.drop_of_length_le (by omega)]
    rfl
  | succ d ih =>
    intro i k A B hi hA hB hk
    obtain ⟨k, rfl⟩ : ∃ m, k = m + 1 := ⟨k - 1, by omega⟩
    obtain ⟨b, B, rfl⟩ : ∃ b B', B = b :: B' := by
      cases B with
      | nil => simp at hB
      | cons b B => exact ⟨b, B, rfl⟩
    have h1 : i < sk.length := by omega
    have h2 : i < (A ++ b :: B).length := by simp; omega
    have hb : (A ++ b :: B)[i] = b := by simp [hA]
    rw [spec_l15Translate.l1, if_pos (by omega), if_pos (by omega), if_pos (by omega), if_pos (by simp; omega), rdB h1, rdMI h2, stepNat h1 hs, List.drop_eq_getElem_cons h1, hb, Int.toNat_natCast]
    have hset : (A ++ b :: B).set i (⟨b.f0, b.f1, sk[i]⟩ : S96) = (A ++ [⟨b.f0, b.f1, sk[i]⟩]) ++ B := by
      rw [List.set_append_right _ _ (by omega), show i - A.length = 0 by omega]
      simp
    refine (congrArg (fun x => spec_l15Translate.l1 k sk (sk.length : Int) ((i + 1 : Nat) : Int) p0 p1 x) hset).trans ?_
    have e := ih (i + 1) k (A ++ [(⟨b.f0, b.f1, sk[i]⟩ : S96)]) B (by omega) (by simp; omega) (by simpa using hB) (by omega)
    rw [e]
    simp [putSk]
theorem putSk_mkU : ∀ (X : List S49) (a : Int) (s t : List Bool), s.length = X.length → t.length = X.length → putSk t (mkU a X s) = mkU a X t
  | [], a, s, t, hs, ht => by
    obtain rfl := List.eq_nil_of_length_eq_zero hs
    obtain rfl := List.eq_nil_of_length_eq_zero ht
    rfl
  | x :: X, a, s, t, hs, ht => by
    cases s with
    | nil => simp at hs
    | cons s ss =>
      cases t with
      | nil => simp at ht
      | cons t ts =>
        simp only [mkU, putSk]
        rw [putSk_mkU X _ ss ts (by simpa using hs) (by simpa using ht)]
theorem mkU_len : ∀ (X : List S49) (a : Int) (s : List Bool), s.length = X.length → (mkU a X s).length = X.length
  | [], a, s, hs => by
    obtain rfl := List.eq_nil_of_length_eq_zero hs
    rfl
  | x :: X, a, s, hs => by
    cases s with
    | nil => simp at hs
    | cons s ss => simp only [mkU, List.length_cons, mkU_len X _ ss (by simpa using hs)]
theorem mkU_f0 : ∀ (X : List S49) (a : Int) (s : List Bool), s.length = X.length → (mkU a X s).map (·.f0) = X
  | [], a, s, hs => by
    obtain rfl := List.eq_nil_of_length_eq_zero hs
    rfl
  | x :: X, a, s, hs => by
    cases s with
    | nil => simp at hs
    | cons s ss => simp only [mkU, List.map_cons, mkU_f0 X _ ss (by simpa using hs)]
theorem mkU_snoc : ∀ (X : List S49) (a : Int) (y : S49), mkU a (X ++ [y]) (List.replicate (X.length + 1) false) = mkU a X (List.replicate X.length false) ++ [⟨y, endI a X, false⟩]
  | [], a, y => rfl
  | x :: X, a, y => by
    have := mkU_snoc X (a + eW x) y
    simp only [List.cons_append, List.length_cons, List.replicate_succ (n := X.length + 1), List.replicate_succ (n := X.length), mkU, endI] at this ⊢
    rw [this]
theorem endI_snoc : ∀ (X : List S49) (a : Int) (y : S49), endI a (X ++ [y]) = endI a X + eW y
  | [], a, y => rfl
  | x :: X, a, y => by
    simp only [List.cons_append, endI]
    exact endI_snoc X _ y
theorem endI_in : ∀ (X : List S49) (a : Int), a ≤ endI a X ∧ endI a X ≤ a + 4 * (X.length : Int) ∧ (endI a X - a) % 2 = 0
  | [], a => by simp [endI]
  | x :: X, a => by
    have := endI_in X (a + eW x)
    have h := eW_in x
    simp only [endI, List.length_cons]
    omega
/-- What is answered when no more instructions come. -/
theorem fin_both (pc : Int) (hp : 0 ≤ pc ∧ pc ≤ 1048576) (X : List S49) (hX : X.length ≤ 8) (hg : ∀ x ∈ X, goodI x = true) : ∃ u0 u1 u2 o, u2.length ≤ 8 ∧
    (∀ k, 60 < k → spec_l15Translate.j2 k pc (endI pc X) (mkU pc X (List.replicate X.length false)) = some (u0, u1, u2, o)) ∧
    (∀ (k : Nat) {γ : Type} (f : Int × Int × List S96 × Bool → γ), 60 < k → (if (X.length : Int) = 0 then (some (0, 0, ([] : List S96), false)) else ((impl_unitOf.f k X pc).bind fun bt => (some (bt.1, bt.2.1, bt.2.2, true)))) = some (u0, u1, u2, o)) := by
  by_cases h0 : X = []
  · subst h0
    refine ⟨0, 0, [], false, by simp, fun k hk => ?_, fun k _ _ _ => rfl⟩
    obtain ⟨k, rfl⟩ : ∃ m, k = m + 1 := ⟨k - 1, by omega⟩
    rfl
  · obtain ⟨sk, hsk, hl, hi⟩ := skips_both h0 (by omega) hg
    have hpos : 0 < X.length := List.length_pos_iff.mpr h0
    have hrep : (List.replicate X.length false).length = X.length := List.length_replicate ..
    refine ⟨pc, endI pc X, mkU pc X sk, true, by rw [mkU_len X pc sk hsk]; exact hX, fun k hk => ?_, fun k _ _ hk => ?_⟩
    · obtain ⟨k, rfl⟩ : ∃ m, k = m + 1 + 1 := ⟨k - 2, by omega⟩
      have hm := mkU_len X pc _ hrep
      rw [spec_l15Translate.j2, hm, if_neg (by omega), lIns_eq pc (endI pc X) (L := mkU pc X (List.replicate X.length false)) (by omega) (by omega)]
      simp only [Option.bind_some, mkU_f0 X pc _ hrep]
      rw [hl (k + 1) (by omega), Option.bind_some]
      have := lT_go sk (by omega) pc (endI pc X) X.length 0 (k + 1) [] (mkU pc X (List.replicate X.length false)) (by omega) rfl hm (by omega)
      rw [List.nil_append, List.nil_append, List.drop_zero, putSk_mkU X pc _ sk hrep hsk] at this
      exact this
    · rw [if_neg (by omega), hi k pc hp (by omega)]
      rfl
theorem trans_go {l8 : List Int} {l9 : List S89} (h8 : l8.length = 512) (hb : ∀ x ∈ l8, 0 ≤ x ∧ x ≤ 255) (pc : Int) (hp : 0 ≤ pc ∧ pc ≤ 512) (he : pc % 2 = 0) : ∀ (n : Nat) (X : List S49), X.length + n = 8 → (∀ x ∈ X, goodI x = true) →
    ∃ u0 u1 u2 o, u2.length ≤ 8 ∧ ∀ k, 3 * n + 70 < k → spec_l15Translate.l0 k l8 l9 pc (endI pc X) (mkU pc X (List.replicate X.length false)) = some (u0, u1, u2, o) ∧ impl_translated.l0 k pc X (endI pc X) l8 l9 = some (u0, u1, u2, o) := by
  intro n
  induction n with
  | zero =>
    intro X hX hg
    obtain ⟨u0, u1, u2, o, hu, f1, f2⟩ := fin_both pc (by omega) X (by omega) hg
    refine ⟨u0, u1, u2, o, hu, fun k hk => ?_⟩
    obtain ⟨k, rfl⟩ : ∃ m, k = m + 1 + 1 := ⟨k - 2, by omega⟩
    have hm := mkU_len X pc (List.replicate X.length false) (List.length_replicate ..)
    constructor
    · rw [spec_l15Translate.l0, hm, if_neg (by omega)]
      exact f1 (k + 1) (by omega)
    · rw [impl_translated.l0, if_neg (by omega), impl_translated.j1, if_neg (by simp)]
      exact f2 k id (by omega)
  | succ n ih =>
    intro X hX hg
    obtain ⟨v0, v1, v2, o', hv, f1, f2⟩ := fin_both pc (by omega) X (by omega) hg
    have hm := mkU_len X pc (List.replicate X.length false) (List.length_replicate ..)
    have hend := endI_in X pc
    obtain ⟨i, hi⟩ : ∃ i : Nat, endI pc X = (i : Int) := ⟨(endI pc X).toNat, by omega⟩
    have hi2 : i % 2 = 0 ∧ i ≤ 600 := by omega
    have hi1 : wrap64 ((i : Int) + 1) = ((i + 1 : Nat) : Int) := by rw [wrap64_id (by omega) (by omega)]; omega
    have hi3 : wrap64 ((i : Int) + 2) = ((i + 2 : Nat) : Int) := by rw [wrap64_id (by omega) (by omega)]; omega
    have hi4 : wrap64 (((i + 2 : Nat) : Int) + 1) = ((i + 3 : Nat) : Int) := by rw [wrap64_id (by omega) (by omega)]; omega
    rw [hi] at f1
    -- an instruction of two words w and x
    have step : ∀ w x : Int, ∃ u0 u1 u2 o, u2.length ≤ 8 ∧ ∀ k, 3 * n + 71 < k → spec_l15Translate.j1 k w x (longB w) l8 l9 pc (i : Int) (mkU pc X (List.replicate X.length false)) = some (u0, u1, u2, o) ∧ impl_translated.j2 k pc X (i : Int) w x l8 l9 = some (u0, u1, u2, o) := by
      intro w x
      have hlong : longB w = 1 ∨ longB w = 2 := by unfold longB; split <;> simp
      have hadd : wrap64 ((i : Int) + wrap64 (2 * longB w)) = endI pc (X ++ [decI w x]) := by
        rw [endI_snoc, eW_dec, hi, wrap64_id (n := 2 * longB w) (by omega) (by omega), wrap64_id (by omega) (by omega)]
      cases hgood : goodI (decI w x) with
      | false =>
        refine ⟨v0, v1, v2, o', hv, fun k hk => ?_⟩
        obtain ⟨k, rfl⟩ : ∃ m, k = m + 1 + 3 := ⟨k - 4, by omega⟩
        unfold goodI at hgood
        constructor
        · rw [show k + 1 + 3 = (k + 3) + 1 from rfl, spec_l15Translate.j1, lDecode_eq]
          simp only [Option.bind_some]
          rw [lGoodIns_eq, hgood, Option.bind_some, if_neg (by simp)]
          exact f1 (k + 3) (by omega)
        · rw [show k + 1 + 3 = (k + 3) + 1 from rfl, impl_translated.j2, iDecode_eq]
          simp only [Option.bind_some]
          rw [iGoodIns_eq, hgood, Option.bind_some, if_neg (by simp)]
          exact f2 (k + 3) id (by omega)
      | true =>
        have hg' : ∀ y ∈ X ++ [decI w x], goodI y = true := by
          intro y hy
          rcases List.mem_append.mp hy with hy | hy
          · exact hg y hy
          · rw [List.mem_singleton.mp hy]; exact hgood
        have hlen : (X ++ [decI w x]).length = X.length + 1 := by simp
        have hgood' := hgood
        unfold goodI at hgood'
        obtain ⟨u0, u1, u2, o, hu, g⟩ : ∃ u0 u1 u2 o, u2.length ≤ 8 ∧ ∀ k, 3 * n + 71 < k + 1 →
            (if strI (decI w x) = true then spec_l15Translate.l0 k l8 l9 pc (endI pc (X ++ [decI w x])) (mkU pc (X ++ [decI w x]) (List.replicate (X ++ [decI w x]).length false)) else spec_l15Translate.j2 k pc (endI pc (X ++ [decI w x])) (mkU pc (X ++ [decI w x]) (List.replicate (X ++ [decI w x]).length false))) = some (u0, u1, u2, o) ∧
            (if strI (decI w x) = true then impl_translated.l0 k pc (X ++ [decI w x]) (endI pc (X ++ [decI w x])) l8 l9 else (if ((X ++ [decI w x]).length : Int) = 0 then (some (0, 0, ([] : List S96), false)) else ((impl_unitOf.f k (X ++ [decI w x]) pc).bind fun bt => (some (bt.1, bt.2.1, bt.2.2, true))))) = some (u0, u1, u2, o) := by
          by_cases hs : strI (decI w x) = true
          · obtain ⟨u0, u1, u2, o, hu, g⟩ := ih (X ++ [decI w x]) (by omega) hg'
            refine ⟨u0, u1, u2, o, hu, fun k hk => ?_⟩
            rw [if_pos hs, if_pos hs]
            exact g k (by omega)
          · obtain ⟨u0, u1, u2, o, hu, g1, g2⟩ := fin_both pc (by omega) (X ++ [decI w x]) (by omega) hg'
            refine ⟨u0, u1, u2, o, hu, fun k hk => ?_⟩
            rw [if_neg hs, if_neg hs]
            exact ⟨g1 k (by omega), g2 k id (by omega)⟩
        refine ⟨u0, u1, u2, o, hu, fun k hk => ?_⟩
        obtain ⟨k, rfl⟩ : ∃ m, k = m + 1 + 3 := ⟨k - 4, by omega⟩
        obtain ⟨ga, gb⟩ := g (k + 3) (by omega)
        rw [hlen, mkU_snoc, hi] at ga
        constructor
        · rw [show k + 1 + 3 = (k + 3) + 1 from rfl, spec_l15Translate.j1, lDecode_eq]
          simp only [Option.bind_some]
          rw [lGoodIns_eq, hgood', Option.bind_some, if_pos rfl, if_pos (by omega), show k + 3 = (k + 2) + 1 from rfl, lStraight_eq, Option.bind_some, hadd]
          exact ga
        · rw [show k + 1 + 3 = (k + 3) + 1 from rfl, impl_translated.j2, iDecode_eq]
          simp only [Option.bind_some]
          rw [iGoodIns_eq, hgood', Option.bind_some, if_pos rfl, if_pos (by omega), show k + 3 = (k + 2) + 1 from rfl, iStraight_eq, Option.bind_some, iLong_eq]
          simp only [Option.bind_some, hadd]
          exact gb
    -- the three ends and the two steps
    by_cases hth : i + 1 < 512 ∧ thereB (i : Int) = true
    · obtain ⟨h512, hthere⟩ := hth
      have hw0 := wordB_nonneg hb (i := i) (by omega) (by omega)
      by_cases hlong : longB (wordB l8 (i : Int)) = 2
      · by_cases hth2 : i + 2 + 1 < 512 ∧ thereB ((i + 2 : Nat) : Int) = true
        · have hw2 := wordB_nonneg hb (i := i + 2) (by omega) (by omega)
          obtain ⟨u0, u1, u2, o, hu, g⟩ := step (wordB l8 (i : Int)) (wordB l8 ((i + 2 : Nat) : Int))
          refine ⟨u0, u1, u2, o, hu, fun k hk => ?_⟩
          obtain ⟨k, rfl⟩ : ∃ m, k = m + 1 + 1 + 3 := ⟨k - 5, by omega⟩
          obtain ⟨ga, _⟩ := g (k + 1 + 3) (by omega)
          obtain ⟨_, gb⟩ := g (k + 3) (by omega)
          constructor
          · rw [hi, show k + 1 + 1 + 3 = (k + 1 + 3) + 1 from rfl, spec_l15Translate.l0, hm, if_pos (by omega), l15Word_eq (k + 1) h8 (by omega), if_pos ⟨h512, hthere⟩, Option.bind_some, if_neg (by omega), lLong_eq, Option.bind_some, if_pos hlong, hi3, l15Word_eq (k + 1) h8 (by omega), if_pos hth2, Option.bind_some, if_neg (by omega)]
            exact ga
          · rw [hi, show k + 1 + 1 + 3 = (k + 1 + 3) + 1 from rfl, impl_translated.l0, if_pos (by omega), if_pos (by omega), isThere_eq (k + 1) (by omega), Option.bind_some, hthere, show k + 1 + 3 = (k + 3) + 1 from rfl, impl_translated.j1, if_pos rfl, if_pos (by omega), if_pos (by omega), hi1, if_pos (by omega), if_pos (by omega)]
            have hw : Go.bits .or .i64 (wrap64 ((rd l8 (i : Int)) * 256)) (rd l8 ((i + 1 : Nat) : Int)) = wordB l8 (i : Int) := by unfold wordB; rw [hi1]
            have hx : Go.bits .or .i64 (wrap64 ((rd l8 ((i + 2 : Nat) : Int)) * 256)) (rd l8 ((i + 3 : Nat) : Int)) = wordB l8 ((i + 2 : Nat) : Int) := by unfold wordB; rw [hi4]
            rw [hw, iLong_eq, Option.bind_some, if_pos hlong, hi3, if_neg (by omega), isThere_eq k (by omega), Option.bind_some, hth2.2, if_pos rfl, if_pos (by omega), if_pos (by omega), hi4, if_pos (by omega), if_pos (by omega), hx]
            exact gb
        · refine ⟨v0, v1, v2, o', hv, fun k hk => ?_⟩
          obtain ⟨k, rfl⟩ : ∃ m, k = m + 1 + 1 + 3 := ⟨k - 5, by omega⟩
          constructor
          · rw [hi, show k + 1 + 1 + 3 = (k + 1 + 3) + 1 from rfl, spec_l15Translate.l0, hm, if_pos (by omega), l15Word_eq (k + 1) h8 (by omega), if_pos ⟨h512, hthere⟩, Option.bind_some, if_neg (by omega), lLong_eq, Option.bind_some, if_pos hlong, hi3, l15Word_eq (k + 1) h8 (by omega), if_neg hth2, Option.bind_some, if_pos (by omega)]
            exact f1 (k + 1 + 3) (by omega)
          · rw [hi, show k + 1 + 1 + 3 = (k + 1 + 3) + 1 from rfl, impl_translated.l0, if_pos (by omega), if_pos (by omega), isThere_eq (k + 1) (by omega), Option.bind_some, hthere, show k + 1 + 3 = (k + 3) + 1 from rfl, impl_translated.j1, if_pos rfl, if_pos (by omega), if_pos (by omega), hi1, if_pos (by omega), if_pos (by omega)]
            have hw : Go.bits .or .i64 (wrap64 ((rd l8 (i : Int)) * 256)) (rd l8 ((i + 1 : Nat) : Int)) = wordB l8 (i : Int) := by unfold wordB; rw [hi1]
            rw [hw, iLong_eq, Option.bind_some, if_pos hlong, hi3]
            by_cases h5 : i + 2 ≥ 512
            · rw [if_pos (by omega)]
              exact f2 (k + 3) id (by omega)
            · rw [if_neg (by omega), isThere_eq k (by omega), Option.bind_some, if_neg (by intro hq; exact hth2 ⟨by omega, hq⟩)]
              exact f2 (k + 3) id (by omega)
      · obtain ⟨u0, u1, u2, o, hu, g⟩ := step (wordB l8 (i : Int)) 0
        refine ⟨u0, u1, u2, o, hu, fun k hk => ?_⟩
        obtain ⟨k, rfl⟩ : ∃ m, k = m + 1 + 1 + 3 := ⟨k - 5, by omega⟩
        obtain ⟨ga, _⟩ := g (k + 1 + 3) (by omega)
        obtain ⟨_, gb⟩ := g (k + 3) (by omega)
        constructor
        · rw [hi, show k + 1 + 1 + 3 = (k + 1 + 3) + 1 from rfl, spec_l15Translate.l0, hm, if_pos (by omega), l15Word_eq (k + 1) h8 (by omega), if_pos ⟨h512, hthere⟩, Option.bind_some, if_neg (by omega), lLong_eq, Option.bind_some, if_neg hlong]
          exact ga
        · rw [hi, show k + 1 + 1 + 3 = (k + 1 + 3) + 1 from rfl, impl_translated.l0, if_pos (by omega), if_pos (by omega), isThere_eq (k + 1) (by omega), Option.bind_some, hthere, show k + 1 + 3 = (k + 3) + 1 from rfl, impl_translated.j1, if_pos rfl, if_pos (by omega), if_pos (by omega), hi1, if_pos (by omega), if_pos (by omega)]
          have hw : Go.bits .or .i64 (wrap64 ((rd l8 (i : Int)) * 256)) (rd l8 ((i + 1 : Nat) : Int)) = wordB l8 (i : Int) := by unfold wordB; rw [hi1]
          rw [hw, iLong_eq, Option.bind_some, if_neg hlong]
          exact gb
    · refine ⟨v0, v1, v2, o', hv, fun k hk => ?_⟩
      obtain ⟨k, rfl⟩ : ∃ m, k = m + 1 + 1 + 3 := ⟨k - 5, by omega⟩
      constructor
      · rw [hi, show k + 1 + 1 + 3 = (k + 1 + 3) + 1 from rfl, spec_l15Translate.l0, hm, if_pos (by omega), l15Word_eq (k + 1) h8 (by omega), if_neg hth, Option.bind_some, if_pos (by omega)]
        exact f1 (k + 1 + 3) (by omega)
      · rw [hi, show k + 1 + 1 + 3 = (k + 1 + 3) + 1 from rfl, impl_translated.l0, if_pos (by omega)]
        have hj : impl_translated.j1 (k + 1 + 3) pc X (i : Int) false l8 l9 = some (v0, v1, v2, o') := by
          rw [show k + 1 + 3 = (k + 3) + 1 from rfl, impl_translated.j1, if_neg (by simp)]
          exact f2 (k + 3) id (by omega)
        by_cases h5 : i < 512
        · have hf : thereB (i : Int) = false := by
            cases hq : thereB (i : Int) with
            | false => rfl
            | true => exact absurd ⟨by omega, hq⟩ hth
          rw [if_pos (by omega), isThere_eq (k + 1) (by omega), Option.bind_some, hf]
          exact hj
        · rw [if_neg (by omega)]
          exact hj
theorem FnExactTranslateAt : ∀ (l0_0 : (List Int)) (l0_1 : (List S103)) (a1 : Int), l0_0.length ≤ 9223372036854775807 → l0_1.length ≤ 9223372036854775807 → (Lit.int .i64 a1).wf = true → ∃ k, laws_FnExactTranslateAt.f k l0_0 l0_1 a1 = some true := by
  intro l8 l9 pc h8 h9 _
  obtain ⟨r8, e8, c8⟩ := szOne l8 1048576 (by omega) h8
  rcases c8 with c8 | ⟨p8, q8, s8⟩
  · refine ⟨0, ?_⟩
    unfold laws_FnExactTranslateAt.f laws_szBus.f
    rw [e8, Option.bind_some, if_pos c8, Option.bind_some, if_pos (by omega)]
  obtain ⟨r9, e9, c9⟩ := szAcc l9 r8 ⟨p8, q8⟩ h9
  rcases c9 with c9 | ⟨p9, q9, s9⟩
  · refine ⟨0, ?_⟩
    unfold laws_FnExactTranslateAt.f laws_szBus.f
    rw [e8, Option.bind_some, if_neg (by omega), e9, Option.bind_some, if_pos c9, Option.bind_some, if_pos (by omega)]
  refine ⟨4194304, ?_⟩
  have e9' : (l9.map convA).length = l9.length := by simp
  have f8 : Fits 4194304 l8.length := ⟨s8, by omega⟩
  have f9 : Fits 4194304 (l9.map convA).length := ⟨by omega, by omega⟩
  have ht : laws_toBus.f 4194304 l8 l9 = some (l8, l9.map convA) := by
    unfold laws_toBus.f
    rw [toInt_eq s8 (by omega), toAcc_eq s9 (by omega)]
    rfl
  have hq : laws_eqBus.f 4194304 l8 (l9.map convA) l8 (l9.map convA) = some true := by
    unfold laws_eqBus.f
    rw [eqInt_eq s8 (by omega), eqAcc_eq (by omega) (by omega)]
    rfl
  have hr : ∃ u0 u1 u2 o, u2.length ≤ 8 ∧ spec_TranslateAt.f 4194304 l8 (l9.map convA) pc = some (u0, u1, u2, o) ∧ impl_TranslateAt.f 4194304 l8 (l9.map convA) pc = some (u0, u1, u2, o) := by
    unfold spec_TranslateAt.f impl_TranslateAt.f
    rw [lBus_eq ⟨s8, by omega, by omega⟩, iBus_eq f8 f9, l1In_eq, within_eq, and_1]
    simp only [Option.bind_some]
    cases hg : goodBus l8 (l9.map convA) with
    | false => exact ⟨0, 0, [], false, by simp, rfl, rfl⟩
    | true =>
      by_cases hp : 0 ≤ pc ∧ pc ≤ 512
      · rw [Int.tmod_eq_emod_of_nonneg hp.1]
        simp only [decide_eq_true hp, if_true]
        by_cases h1 : pc % 2 = 1
        · rw [if_pos h1, if_pos h1]
          exact ⟨0, 0, [], false, by simp, rfl, rfl⟩
        · unfold goodBus at hg
          simp only [Bool.and_eq_true, beq_iff_eq, List.all_eq_true] at hg
          have hl : l8.length = 512 := by have := hg.2.1; omega
          have hb : ∀ x ∈ l8, 0 ≤ x ∧ x ≤ 255 := fun x hx => by have := hg.2.2.1 x hx; simpa [isBy] using this
          obtain ⟨u0, u1, u2, o, hu, g⟩ := trans_go (l9 := l9.map convA) hl hb pc hp (by omega) 8 [] rfl (by simp)
          obtain ⟨ga, gb⟩ := g 4194304 (by omega)
          refine ⟨u0, u1, u2, o, hu, ?_, ?_⟩
          · rw [if_neg h1]
            unfold spec_l15Translate.f
            have ga' : spec_l15Translate.l0 4194304 l8 (l9.map convA) pc pc [] = some (u0, u1, u2, o) := ga
            rw [ga']
            rfl
          · rw [if_neg h1]
            unfold impl_translated.f
            have gb' : impl_translated.l0 4194304 pc [] pc l8 (l9.map convA) = some (u0, u1, u2, o) := gb
            rw [gb']
            rfl
      · simp only [decide_eq_false hp]
        exact ⟨0, 0, [], false, by simp, rfl, rfl⟩
  obtain ⟨u0, u1, u2, o, hu, g1, g2⟩ := hr
  have fu : Fits 4194304 u2.length := ⟨by omega, by omega⟩
  have hm : laws_markUnit.f 4194304 u0 u1 u2 1 = some (1 + 9 * (u2.length : Int), uptoM 1 u2.length) := by
    unfold laws_markUnit.f
    rw [markM_eq u2 (by omega) 1 _ (by omega) (by omega) (by omega)]
    rfl
  have hh : laws_heldUnit.f 4194304 u0 u1 (uptoM 1 u2.length) 1 = some (1 + 9 * (u2.length : Int)) := by
    unfold laws_heldUnit.f
    rw [heldM_eq u2.length (by omega) 1 _ (by omega) (by omega) (by omega), Option.bind_some, if_neg (by omega)]
  have hk : ∃ p, laws_markBus.f 4194304 l8 (l9.map convA) 1 = some p ∧ 0 ≤ p.1 := by
    unfold laws_markBus.f
    rw [markIntS_eq l8 1 _ (by omega) (by omega) (by omega), Option.bind_some]
    simp only
    rw [markA_eq _ (by omega) _ _ (by omega) (by omega) (by omega)]
    exact ⟨_, rfl, by simp only; omega⟩
  obtain ⟨⟨pm, pm2⟩, hk1, hk2⟩ := hk
  unfold laws_FnExactTranslateAt.f laws_szBus.f
  rw [e8, Option.bind_some, if_neg (by omega), e9, Option.bind_some, if_neg (by omega), Option.bind_some, if_neg (by omega), ht]
  simp only [Option.bind_some, g1, g2]
  rw [eqUnit_eq fu]
  simp only [Option.bind_some, if_true]
  rw [if_neg (by simp), hq]
  simp only [Option.bind_some, if_true]
  rw [hk1]
  simp only [Option.bind_some]
  rw [if_neg (by simpa using hk2), hm]
  simp only [Option.bind_some]
  rw [hh]
  simp only [Option.bind_some]
  rw [if_neg (by omega), if_pos trivial, if_neg (by simp), if_neg (by omega), if_pos trivial]

end Go.Proofs.Ytapfngfaiojmhaa.Pure
