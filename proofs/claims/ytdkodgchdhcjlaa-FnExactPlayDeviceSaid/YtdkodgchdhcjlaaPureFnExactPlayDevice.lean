/- The law FnExactPlayDevice as a plain function answers true for all arguments (numbers of 64 bits, lists of at most 2^63 - 1 elements). No other condition. -/
import Derived.Test.YtdkodgchdhcjlaaDx26
import Derived.Test.YtdkodgchdhcjlaaDx10
import Derived.Test.YtdkodgchdhcjlaaDx20
import Derived.Test.YtdkodgchdhcjlaaDx8
import Derived.Test.YtdkodgchdhcjlaaMath
set_option linter.unusedVariables false
set_option linter.unusedSimpArgs false
namespace Go.Proofs.Ytdkodgchdhcjlaa.Pure
open Go.RowKit Go.Proofs.Ytdkodgchdhcjlaa.D Go.Proofs.YtdkodgchdhcjlaaW.PrintWords Go.Proofs.YtdkodgchdhcjlaaW.PrintLast Go.Proofs.Ytdkodgchdhcjlaa.Math

theorem l1In_eq (a b c : Int) : spec_l1In.f a b c = some (decide (b ≤ a ∧ a ≤ c)) := by
  unfold spec_l1In.f
  by_cases h : b ≤ a <;> simp [h]
theorem within_eq (a b c : Int) : impl_within.f a b c = some (decide (b ≤ a ∧ a ≤ c)) := by
  unfold impl_within.f
  by_cases h : b ≤ a <;> simp [h]
theorem stepNat {i n : Nat} (h : i < n) (hn : n ≤ 1048576) : wrap64 ((i : Int) + 1) = ((i + 1 : Nat) : Int) := by
  rw [wrap64_id (by omega) (by omega)]
  omega
theorem rdI {l : List Int} {i : Nat} (h : i < l.length) : rd l (i : Int) = l[i] := by
  simp [rd, List.getElem?_eq_getElem h]
theorem setMap {α β : Type} (f : α → β) (z : β) (l : List α) (i m : Nat) (h : i + (m + 1) = l.length) :
    ((l.take i).map f ++ List.replicate (m + 1) z).set i (f (l[i]'(by omega))) = (l.take (i + 1)).map f ++ List.replicate m z := by
  have hi : i < l.length := by omega
  rw [List.set_append_right _ _ (by simp; omega), List.take_succ_eq_append_getElem hi, List.map_append, List.append_assoc]
  congr 1
  have : i - ((l.take i).map f).length = 0 := by simp; omega
  rw [this, List.replicate_succ]
  rfl
/-- The four lists of a processor are short, and the rounds are enough for them. -/
def Fits (k : Nat) (n : Nat) : Prop := n ≤ 1048576 ∧ n < k
/-- The numbers a, a + 1, .. -/
def upto (a : Int) : Nat → List Int
  | 0 => []
  | n + 1 => a :: upto (a + 1) n
theorem upto_length (a : Int) (n : Nat) : (upto a n).length = n := by
  induction n generalizing a with
  | zero => rfl
  | succ n ih => simp [upto, ih]
theorem rd_at (l : List Int) (i : Nat) (h : i < l.length) : rd l (i : Int) = l[i] := by
  simp [rd, List.getElem?_eq_getElem h]
theorem eqIntS_l0 (l : List Int) (hl : l.length ≤ 4611686018427387904) : ∀ (d k i : Nat), i + d = l.length → d < k → laws_eqIntS.l0 k l l (i : Int) = some true := by
  intro d
  induction d with
  | zero =>
    intro k i hi hk
    obtain ⟨k, rfl⟩ : ∃ m, k = m + 1 := ⟨k - 1, by omega⟩
    simp only [laws_eqIntS.l0]
    rw [if_neg (by omega)]
  | succ d ih =>
    intro k i hi hk
    obtain ⟨k, rfl⟩ : ∃ m, k = m + 1 := ⟨k - 1, by omega⟩
    simp only [laws_eqIntS.l0]
    rw [if_pos (by omega), if_pos (by omega), if_pos (by omega), if_pos trivial, wrap64_id (by omega) (by omega), show ((i : Int) + 1) = ((i + 1 : Nat) : Int) by omega]
    exact ih k (i + 1) (by omega) (by omega)
theorem eqIntS_self (l : List Int) (hl : l.length ≤ 4611686018427387904) (k : Nat) (hk : l.length < k) : laws_eqIntS.f k l l = some true := by
  unfold laws_eqIntS.f
  rw [if_pos rfl]
  exact eqIntS_l0 l hl l.length k 0 (by omega) hk
theorem markIntS_l0 (n : Nat) (hn : n ≤ 4611686018427387904) : ∀ (d k i : Nat) (a : Int) (x : List Int), x.length = n → i + d = n → d < k → 0 ≤ a → a ≤ 4611686018427387904 - (d : Int) →
    laws_markIntS.l0 k x a (i : Int) = some (a + (d : Int), x.take i ++ upto a d) := by
  intro d
  induction d with
  | zero =>
    intro k i a x hx hi hk _ _
    obtain ⟨k, rfl⟩ : ∃ m, k = m + 1 := ⟨k - 1, by omega⟩
    simp only [laws_markIntS.l0]
    rw [if_neg (by omega)]
    simp [upto, List.take_of_length_le (show x.length ≤ i by omega)]
  | succ d ih =>
    intro k i a x hx hi hk ha hb
    obtain ⟨k, rfl⟩ : ∃ m, k = m + 1 := ⟨k - 1, by omega⟩
    simp only [laws_markIntS.l0]
    rw [if_pos (by omega), if_pos (by omega), wrap64_id (n := a + 1) (by omega) (by omega), wrap64_id (by omega) (by omega)]
    have hset : (x.set i a).take (i + 1) = x.take i ++ [a] := by
      rw [List.take_succ_eq_append_getElem (by simp; omega), List.take_set, List.set_eq_of_length_le (by simp; omega)]
      simp
    have := ih k (i + 1) (a + 1) (x.set i a) (by simp [hx]) (by omega) (by omega) (by omega) (by omega)
    rw [hset] at this
    simp only [Int.toNat_natCast]
    rw [show ((i : Int) + 1) = ((i + 1 : Nat) : Int) by omega, this]
    simp [upto]
    omega
theorem markIntS_eq (x : List Int) (a : Int) (k : Nat) (hk : x.length < k) (ha : 0 ≤ a) (hb : a + (x.length : Int) ≤ 4611686018427387904) :
    laws_markIntS.f k x a = some (a + (x.length : Int), upto a x.length) := by
  unfold laws_markIntS.f
  have := markIntS_l0 x.length (by omega) x.length k 0 a x rfl (by omega) hk ha (by omega)
  simpa using this
theorem heldIntS_l0 (x : List Int) (hx : x.length ≤ 4611686018427387904) : ∀ (d k i : Nat) (a : Int), x.drop i = upto a d → i + d = x.length → d < k → 0 ≤ a → a ≤ 4611686018427387904 - (d : Int) →
    laws_heldIntS.l0 k x a (i : Int) = some (a + (d : Int)) := by
  intro d
  induction d with
  | zero =>
    intro k i a hd hi hk _ _
    obtain ⟨k, rfl⟩ : ∃ m, k = m + 1 := ⟨k - 1, by omega⟩
    simp only [laws_heldIntS.l0]
    rw [if_neg (by omega)]
    simp
  | succ d ih =>
    intro k i a hd hi hk ha hb
    obtain ⟨k, rfl⟩ : ∃ m, k = m + 1 := ⟨k - 1, by omega⟩
    have hlt : i < x.length := by omega
    rw [List.drop_eq_getElem_cons hlt] at hd
    simp only [upto, List.cons.injEq] at hd
    simp only [laws_heldIntS.l0]
    rw [if_pos (by omega), if_pos (by omega), wrap64_id (n := a + 1) (by omega) (by omega), wrap64_id (by omega) (by omega), rd_at x i hlt, if_pos hd.1]
    have := ih k (i + 1) (a + 1) hd.2 (by omega) (by omega) (by omega) (by omega)
    rw [show ((i : Int) + 1) = ((i + 1 : Nat) : Int) by omega, this]
    congr 1
    omega
theorem heldIntS_upto (n : Nat) (a : Int) (k : Nat) (hk : n < k) (ha : 0 ≤ a) (hb : a + (n : Int) ≤ 4611686018427387904) :
    laws_heldIntS.f k (upto a n) a = some (a + (n : Int)) := by
  unfold laws_heldIntS.f
  exact heldIntS_l0 (upto a n) (by rw [upto_length]; omega) n k 0 a rfl (by rw [upto_length]; omega) hk ha (by omega)
theorem toInt_loop (l : List Int) (hl : l.length ≤ 1048576) : ∀ (m i k : Nat), i + m = l.length → m < k →
    laws_toIntS.l0 k l ((l.take i).map id ++ List.replicate m 0) (i : Int) = some l
  | 0, i, k, h, hk => by
    obtain ⟨k, rfl⟩ : ∃ n, k = n + 1 := ⟨k - 1, by omega⟩
    rw [laws_toIntS.l0, if_neg (by omega), List.take_of_length_le (by omega)]
    simp
  | m + 1, i, k, h, hk => by
    obtain ⟨k, rfl⟩ : ∃ n, k = n + 1 := ⟨k - 1, by omega⟩
    have hi : i < l.length := by omega
    rw [laws_toIntS.l0, if_pos (by omega), if_pos (by omega), rdI hi, if_pos (by simp; omega), stepNat hi hl, Int.toNat_natCast]
    have := setMap id (0 : Int) l i m h
    simp only [id] at this
    change laws_toIntS.l0 k l (((l.take i).map id ++ List.replicate (m + 1) 0).set i l[i]) ((i + 1 : Nat) : Int) = _
    rw [this]
    exact toInt_loop l hl m (i + 1) k (by omega) (by omega)
theorem toInt_eq {l : List Int} (hl : l.length ≤ 1048576) {k : Nat} (hk : l.length < k) : laws_toIntS.f k l = some l := by
  unfold laws_toIntS.f
  rw [if_pos (by omega), if_pos (by rw [Int.toNat_natCast]; omega)]
  have := toInt_loop l hl l.length 0 k (by omega) hk
  simpa using this
theorem szOne (l : List Int) (a : Int) (ha : 0 ≤ a ∧ a ≤ 1048576) (h : l.length ≤ 9223372036854775807) : ∃ r, laws_szIntS.f l a = some r ∧ (r < 0 ∨ (0 ≤ r ∧ r ≤ 1048576 ∧ l.length ≤ 1048576)) := by
  unfold laws_szIntS.f
  rw [wrap64_id (by omega) (by omega)]
  by_cases h : a - (l.length : Int) < 0
  · rw [if_pos h]
    exact ⟨-1, rfl, Or.inl (by omega)⟩
  · rw [if_neg h]
    exact ⟨_, rfl, Or.inr (by omega)⟩
theorem szDev_eq (a0 a1 : Int) (b : Bool) (l3 l4 : List Int) (a5 a : Int) (ha : 0 ≤ a ∧ a ≤ 1048576) (h3 : l3.length ≤ 9223372036854775807) (h4 : l4.length ≤ 9223372036854775807) :
    ∃ r, laws_szDevice.f a0 a1 b l3 l4 a5 a = some r ∧ (r < 0 ∨ (0 ≤ r ∧ r ≤ 1048576 ∧ l3.length ≤ 1048576 ∧ l4.length ≤ 1048576)) := by
  unfold laws_szDevice.f
  obtain ⟨r0, e0, c0⟩ := szOne l3 a ha h3
  rw [e0, Option.bind_some]
  rcases c0 with c0 | ⟨p0, q0, s0⟩
  · rw [if_pos c0]
    exact ⟨_, rfl, Or.inl (by omega)⟩
  obtain ⟨r1, e1, c1⟩ := szOne l4 r0 ⟨p0, q0⟩ h4
  rw [if_neg (by omega), e1, Option.bind_some]
  rcases c1 with c1 | ⟨p1, q1, s1⟩
  · rw [if_pos c1]
    exact ⟨_, rfl, Or.inl (by omega)⟩
  rw [if_neg (by omega)]
  exact ⟨r1, rfl, Or.inr ⟨p1, q1, s0, s1⟩⟩
theorem toDev_eq {k : Nat} {l3 l4 : List Int} (h3 : Fits k l3.length) (h4 : Fits k l4.length) (a0 a1 : Int) (b : Bool) (a5 : Int) : laws_toDevice.f k a0 a1 b l3 l4 a5 = some (a0, a1, b, l3, l4, a5) := by
  unfold laws_toDevice.f
  rw [toInt_eq h3.1 h3.2, toInt_eq h4.1 h4.2]
  rfl
theorem eqDev_eq {k : Nat} {l3 l4 : List Int} (h3 : Fits k l3.length) (h4 : Fits k l4.length) (a0 a1 : Int) (b : Bool) (a5 : Int) : laws_eqDevice.f k a0 a1 b l3 l4 a5 a0 a1 b l3 l4 a5 = some true := by
  unfold laws_eqDevice.f
  rw [eqIntS_self l3 (by have := h3.1; omega) k h3.2, eqIntS_self l4 (by have := h4.1; omega) k h4.2]
  simp
theorem markDev_eq {k : Nat} {l3 l4 : List Int} (h3 : Fits k l3.length) (h4 : Fits k l4.length) (a0 a1 : Int) (b : Bool) (a5 : Int) : laws_markDevice.f k a0 a1 b l3 l4 a5 1 = some (1 + (l3.length : Int) + (l4.length : Int), upto 1 l3.length, upto (1 + (l3.length : Int)) l4.length) := by
  unfold laws_markDevice.f
  rw [markIntS_eq l3 1 k h3.2 (by omega) (by have := h3.1; omega), Option.bind_some]
  simp only
  rw [markIntS_eq l4 (1 + (l3.length : Int)) k h4.2 (by omega) (by have := h3.1; have := h4.1; omega), Option.bind_some]
theorem heldDev_eq {k n m : Nat} (h3 : Fits k n) (h4 : Fits k m) (a0 a1 : Int) (b : Bool) (a5 : Int) : laws_heldDevice.f k a0 a1 b (upto 1 n) (upto (1 + (n : Int)) m) a5 1 = some (1 + (n : Int) + (m : Int)) := by
  unfold laws_heldDevice.f
  rw [heldIntS_upto n 1 k h3.2 (by omega) (by have := h3.1; omega), Option.bind_some, if_neg (by omega), heldIntS_upto m (1 + (n : Int)) k h4.2 (by omega) (by have := h3.1; have := h4.1; omega), Option.bind_some, if_neg (by omega)]
def isBy (x : Int) : Bool := decide (0 ≤ x ∧ x ≤ 255)
theorem lBytes_loop (l : List Int) (hl : l.length ≤ 1048576) : ∀ (m i k : Nat), i + m = l.length → m < k →
    spec_l4Bytes.l0 k l (l.length : Int) (i : Int) = some ((l.drop i).all isBy)
  | 0, i, k, h, hk => by
    obtain ⟨k, rfl⟩ : ∃ n, k = n + 1 := ⟨k - 1, by omega⟩
    rw [spec_l4Bytes.l0, if_neg (by omega), List.drop_of_length_le (by omega)]
    rfl
  | m + 1, i, k, h, hk => by
    obtain ⟨k, rfl⟩ : ∃ n, k = n + 1 := ⟨k - 1, by omega⟩
    have hi : i < l.length := by omega
    rw [spec_l4Bytes.l0, if_pos (by omega), if_pos (by omega), if_pos (by omega), rdI hi, l1In_eq, Option.bind_some, List.drop_eq_getElem_cons hi, List.all_cons, stepNat hi hl]
    change (if isBy l[i] = true then _ else _) = _
    cases isBy l[i] with
    | true =>
      rw [if_pos rfl, Bool.true_and]
      exact lBytes_loop l hl m (i + 1) k (by omega) (by omega)
    | false => rfl
theorem lBytes_eq {l : List Int} {k : Nat} (h : Fits k l.length) : spec_l4Bytes.f k l = some (l.all isBy) := by
  unfold spec_l4Bytes.f
  have := lBytes_loop l h.1 l.length 0 k (by omega) h.2
  simpa using this
theorem iBytes_loop (l : List Int) (hl : l.length ≤ 1048576) : ∀ (m i k : Nat), i + m = l.length → m < k →
    ∃ r, slices_IndexFunc_87_g86.l0 k l (l.length : Int) (i : Int) = some r ∧ decide (r ≥ 0) = !(l.drop i).all isBy
  | 0, i, k, h, hk => by
    obtain ⟨k, rfl⟩ : ∃ n, k = n + 1 := ⟨k - 1, by omega⟩
    rw [slices_IndexFunc_87_g86.l0, if_neg (by omega), List.drop_of_length_le (by omega)]
    exact ⟨_, rfl, rfl⟩
  | m + 1, i, k, h, hk => by
    obtain ⟨k, rfl⟩ : ∃ n, k = n + 1 := ⟨k - 1, by omega⟩
    have hi : i < l.length := by omega
    have h1 : impl_areBytes_1.f l[i] = some (!isBy l[i]) := by
      unfold impl_areBytes_1.f
      rw [within_eq]
      rfl
    rw [slices_IndexFunc_87_g86.l0, if_pos (by omega), if_pos (by omega), if_pos (by omega), rdI hi, h1, Option.bind_some, List.drop_eq_getElem_cons hi, List.all_cons, stepNat hi hl]
    cases hb : isBy l[i] with
    | false => exact ⟨_, rfl, by simp⟩
    | true =>
      rw [if_neg (by simp), Bool.true_and]
      exact iBytes_loop l hl m (i + 1) k (by omega) (by omega)
theorem iBytes_eq {l : List Int} {k : Nat} (h : Fits k l.length) (n : Int) : impl_areBytes.f k l n = some (decide ((l.length : Int) ≤ n) && l.all isBy) := by
  unfold impl_areBytes.f slices_ContainsFunc_85_g86.f slices_IndexFunc_87_g86.f
  obtain ⟨r, h1, h2⟩ := iBytes_loop l h.1 l.length 0 k (by omega) h.2
  rw [show ((0 : Nat) : Int) = 0 from rfl] at h1
  rw [h1]
  simp only [Option.bind_some, h2, Bool.not_not, List.drop_zero]
  by_cases h : (l.length : Int) ≤ n
  · simp [h]
  · simp [h]
/-- What a good device is. -/
def goodDev (a0 a1 : Int) (l3 l4 : List Int) (a5 : Int) : Bool := decide (0 ≤ a0 ∧ a0 ≤ 255) && (decide (0 ≤ a1 ∧ a1 ≤ a0) && (l3.all isBy && (l4.all isBy && (decide ((l3.length : Int) ≤ 4) && (decide ((l4.length : Int) ≤ 200) && decide (0 ≤ a5 ∧ a5 ≤ 1000))))))
theorem lDev_eq {k : Nat} {l3 l4 : List Int} (h3 : Fits k l3.length) (h4 : Fits k l4.length) (a0 a1 : Int) (b : Bool) (a5 : Int) : spec_GoodDevice.f k a0 a1 b l3 l4 a5 = some (goodDev a0 a1 l3 l4 a5) := by
  unfold spec_GoodDevice.f goodDev
  simp only [l1In_eq, lBytes_eq h3, lBytes_eq h4, Option.bind_some]
  by_cases c0 : 0 ≤ a0 ∧ a0 ≤ 255 <;> by_cases c1 : 0 ≤ a1 ∧ a1 ≤ a0 <;> cases l3.all isBy <;> cases l4.all isBy <;> by_cases c2 : (l3.length : Int) ≤ 4 <;> by_cases c3 : (l4.length : Int) ≤ 200 <;> simp [c0, c1, c2, c3]
theorem iDev_eq {k : Nat} {l3 l4 : List Int} (h3 : Fits k l3.length) (h4 : Fits k l4.length) (a0 a1 : Int) (b : Bool) (a5 : Int) : impl_GoodDevice.f k a0 a1 b l3 l4 a5 = some (goodDev a0 a1 l3 l4 a5) := by
  unfold impl_GoodDevice.f goodDev
  simp only [within_eq, iBytes_eq h3, iBytes_eq h4, Option.bind_some]
  by_cases c0 : 0 ≤ a0 ∧ a0 ≤ 255 <;> by_cases c1 : 0 ≤ a1 ∧ a1 ≤ a0 <;> cases l3.all isBy <;> cases l4.all isBy <;> by_cases c2 : (l3.length : Int) ≤ 4 <;> by_cases c3 : (l4.length : Int) ≤ 200 <;> simp [c0, c1, c2, c3]
/-- What a good step is. -/
def goodStep (k p v : Int) : Bool := if k = 1 then p == 0 && v == 0 else if k = 2 then p == 0 && decide (0 ≤ v ∧ v ≤ 255) else if k = 3 then decide (0 ≤ p ∧ p ≤ 3) && v == 0 else if k = 4 then decide (0 ≤ p ∧ p ≤ 3) && decide (0 ≤ v ∧ v ≤ 255) else false
theorem lPort_eq (p : Int) : spec_l5Port.f p = some (decide (0 ≤ p ∧ p ≤ 3)) := by
  unfold spec_l5Port.f
  rw [l1In_eq]
  rfl
theorem lStep_eq (k p v : Int) : spec_l5Good.f k p v = some (goodStep k p v) := by
  unfold spec_l5Good.f goodStep
  simp only [l1In_eq, lPort_eq, Option.bind_some]
  by_cases c1 : k = 1
  · by_cases c2 : p = 0 <;> simp [c1, c2]
  by_cases c3 : k = 2
  · by_cases c2 : p = 0 <;> simp [c3, c2]
  by_cases c4 : k = 3
  · by_cases c2 : 0 ≤ p ∧ p ≤ 3 <;> simp [c4, c2]
  by_cases c5 : k = 4
  · by_cases c2 : 0 ≤ p ∧ p ≤ 3 <;> simp [c5, c2]
  simp [c1, c3, c4, c5]
theorem iStep_eq (k p v : Int) : impl_isDevStep.f k p v = some (goodStep k p v) := by
  unfold impl_isDevStep.f goodStep
  simp only [within_eq, Option.bind_some]
  by_cases c1 : k = 1
  · by_cases c2 : p = 0 <;> simp [c1, c2]
  by_cases c3 : k = 2
  · by_cases c2 : p = 0 <;> simp [c3, c2]
  by_cases c4 : k = 3
  · by_cases c2 : 0 ≤ p ∧ p ≤ 3 <;> simp [c4, c2]
  by_cases c5 : k = 4
  · by_cases c2 : 0 ≤ p ∧ p ≤ 3 <;> simp [c5, c2]
  simp [c1, c3, c4, c5]
/-- What is kept of a device on its way. -/
def InvD (a0 a1 : Int) (l3 l4 : List Int) (a5 : Int) : Prop := (0 ≤ a0 ∧ a0 ≤ 255) ∧ (0 ≤ a1 ∧ a1 ≤ 255) ∧ l3.length ≤ 4 ∧ l4.length ≤ 200 ∧ (0 ≤ a5 ∧ a5 ≤ 1000)
theorem goodDev_inv {a0 a1 : Int} {l3 l4 : List Int} {a5 : Int} (h : goodDev a0 a1 l3 l4 a5 = true) : InvD a0 a1 l3 l4 a5 := by
  unfold goodDev at h
  simp only [Bool.and_eq_true, decide_eq_true_eq] at h
  unfold InvD
  omega
theorem lOwnD_eq {l3 l4 : List Int} (h3 : l3.length ≤ 1048576) (h4 : l4.length ≤ 1048576) (a0 a1 : Int) (b : Bool) (a5 : Int) : spec_l5Own.f a0 a1 b l3 l4 a5 = some (a0, a1, b, l3, l4, a5) := by
  unfold spec_l5Own.f
  simp only [Option.bind_some, List.length_nil, List.nil_append]
  rw [if_pos (by omega), if_pos (by omega)]
theorem iOwnD_eq {l3 l4 : List Int} (h3 : l3.length ≤ 1048576) (h4 : l4.length ≤ 1048576) (a0 a1 : Int) (b : Bool) (a5 : Int) : impl_ownDevice.f a0 a1 b l3 l4 a5 = some (a0, a1, b, l3, l4, a5) := by
  unfold impl_ownDevice.f slices_Clone_int_int.f
  simp only [Option.bind_some, List.length_nil, List.nil_append]
  rw [if_pos (by omega), if_pos (by omega)]
  rfl
/-- A step of a device, as a plain function. -/
def stepD (a0 a1 : Int) (b : Bool) (l3 l4 : List Int) (a5 k p v : Int) : Int × Int × Bool × List Int × List Int × Int × Int :=
  if k = 1 then (if a0 = 0 then (a0, a1, b, l3, l4, a5, 0) else if a1 ≤ 1 then (a0, a0, true, l3, l4, a5, 0) else (a0, a1 - 1, b, l3, l4, a5, 0))
  else if k = 2 then (if l3.length < 4 then (a0, a1, b, l3 ++ [v], l4, a5, 0) else (a0, a1, b, l3, l4, if a5 < 1000 then a5 + 1 else a5, 0))
  else if k = 3 then (if p = 0 then (a0, a1, b, l3, l4, a5, a0) else if p = 1 then (a0, a1, false, l3, l4, a5, if b then 1 else 0) else if p = 2 then (a0, a1, b, l3.drop 1, l4, a5, if l3.length = 0 then 0 else rd l3 0) else (a0, a1, b, l3, l4, a5, (l3.length : Int)))
  else (if p = 0 then (v, v, b, l3, l4, a5, 0) else if p = 1 then (a0, a1, false, l3, l4, a5, 0) else if p = 2 then (a0, a1, b, l3, if l4.length < 200 then l4 ++ [v] else l4, a5, 0) else (a0, a1, b, [], l4, a5, 0))
theorem stepD_inv {a0 a1 : Int} {b : Bool} {l3 l4 : List Int} {a5 k p v : Int} (h : InvD a0 a1 l3 l4 a5) (hg : goodStep k p v = true) : InvD (stepD a0 a1 b l3 l4 a5 k p v).1 (stepD a0 a1 b l3 l4 a5 k p v).2.1 (stepD a0 a1 b l3 l4 a5 k p v).2.2.2.1 (stepD a0 a1 b l3 l4 a5 k p v).2.2.2.2.1 (stepD a0 a1 b l3 l4 a5 k p v).2.2.2.2.2.1 := by
  unfold InvD at h ⊢
  unfold goodStep at hg
  unfold stepD
  by_cases c1 : k = 1
  · simp only [c1, if_true]
    by_cases d1 : a0 = 0 <;> by_cases d2 : a1 ≤ 1 <;> simp [d1, d2] <;> omega
  by_cases c2 : k = 2
  · simp only [c2, if_true, show ¬ (2 : Int) = 1 by decide, if_false]
    by_cases d1 : l3.length < 4 <;> by_cases d2 : a5 < 1000 <;> simp [d1, d2] <;> omega
  by_cases c3 : k = 3
  · simp only [c3, if_true, show ¬ (3 : Int) = 1 by decide, show ¬ (3 : Int) = 2 by decide, if_false]
    by_cases d1 : p = 0 <;> by_cases d2 : p = 1 <;> by_cases d3 : p = 2 <;> simp [d1, d2, d3] <;> omega
  · simp only [c1, c2, c3, if_false] at hg ⊢
    by_cases c4 : k = 4
    · simp only [c4, if_true, Bool.and_eq_true, decide_eq_true_eq] at hg
      by_cases d1 : p = 0 <;> by_cases d2 : p = 1 <;> by_cases d3 : p = 2 <;> by_cases d4 : l4.length < 200 <;> simp [d1, d2, d3, d4] <;> omega
    · simp [c4] at hg
theorem lStepD_eq {a0 a1 : Int} {b : Bool} {l3 l4 : List Int} {a5 k p v : Int} (h : InvD a0 a1 l3 l4 a5) (hg : goodStep k p v = true) : spec_l5Step.f a0 a1 b l3 l4 a5 k p v = some (stepD a0 a1 b l3 l4 a5 k p v) := by
  unfold InvD at h
  have hw : wrap64 (a1 - 1) = a1 - 1 := wrap64_id (by omega) (by omega)
  have hw2 : wrap64 (a5 + 1) = a5 + 1 := wrap64_id (by omega) (by omega)
  unfold spec_l5Step.f stepD
  by_cases c1 : k = 1
  · simp only [c1, if_true, spec_l5Tick.f, hw]
    by_cases d1 : a0 = 0
    · simp [d1]
    · by_cases d2 : a1 > 0
      · by_cases d3 : a1 - 1 = 0
        · simp [d1, d2, d3, show a1 ≤ 1 by omega]
        · simp [d1, d2, d3, show ¬ a1 ≤ 1 by omega]
      · simp [d1, d2, show a1 = 0 by omega]
  by_cases c2 : k = 2
  · simp only [c2, if_true, show ¬ (2 : Int) = 1 by decide, if_false, spec_l5Come.f, hw2]
    by_cases d1 : l3.length < 4
    · simp [d1, show (l3.length : Int) < 4 by omega, show l3.length < 17592186044416 by omega]
    · by_cases d2 : a5 < 1000 <;> simp [d1, d2, show ¬ (l3.length : Int) < 4 by omega]
  by_cases c3 : k = 3
  · simp only [c3, if_true, show ¬ (3 : Int) = 1 by decide, show ¬ (3 : Int) = 2 by decide, if_false, spec_l5Read.f, spec_l1Flag.f]
    by_cases d1 : p = 0
    · simp [d1]
    by_cases d2 : p = 1
    · cases b <;> simp [d2]
    by_cases d3 : p = 2
    · cases l3 with
      | nil => simp [d3]
      | cons x xs =>
        simp only [List.length_cons] at h
        simp [d3, show (0 : Int) < (xs.length : Int) + 1 by omega, show ¬ ((xs.length : Int) + 1 = 0) by omega, show xs.length < 17592186044416 by omega, show (1 : Int) ≤ (xs.length : Int) + 1 by omega]
    · simp [d1, d2, d3]
  · simp only [c1, c2, c3, if_false, spec_l5Write.f]
    by_cases d1 : p = 0
    · simp [d1]
    by_cases d2 : p = 1
    · simp [d2]
    by_cases d3 : p = 2
    · by_cases d4 : l4.length < 200
      · simp [d3, d4, show (l4.length : Int) < 200 by omega, show l4.length < 17592186044416 by omega]
      · simp [d3, d4, show ¬ (l4.length : Int) < 200 by omega]
    · simp [d1, d2, d3]
theorem mn_1000 {x : Int} (h : 0 ≤ x ∧ x ≤ 1000) : mn 1000 (x + 1) = if x < 1000 then x + 1 else x := by
  unfold mn
  by_cases h2 : x < 1000
  · simp [h2]; omega
  · simp [h2]; omega
theorem iStepD_eq (n : Nat) {a0 a1 : Int} {b : Bool} {l3 l4 : List Int} {a5 k p v : Int} (h : InvD a0 a1 l3 l4 a5) (hg : goodStep k p v = true) :
    impl_StepDevice.j0 (n + 1) false a0 a1 b l3 l4 a5 k p v = some ((stepD a0 a1 b l3 l4 a5 k p v).1, (stepD a0 a1 b l3 l4 a5 k p v).2.1, (stepD a0 a1 b l3 l4 a5 k p v).2.2.1, (stepD a0 a1 b l3 l4 a5 k p v).2.2.2.1, (stepD a0 a1 b l3 l4 a5 k p v).2.2.2.2.1, (stepD a0 a1 b l3 l4 a5 k p v).2.2.2.2.2.1, (stepD a0 a1 b l3 l4 a5 k p v).2.2.2.2.2.2, true) := by
  unfold InvD at h
  have hw : wrap64 (a1 - 1) = a1 - 1 := wrap64_id (by omega) (by omega)
  have hw2 : wrap64 (a5 + 1) = a5 + 1 := wrap64_id (by omega) (by omega)
  have ho : ∀ (x0 x1 : Int) (c : Bool) (m3 m4 : List Int) (x5 : Int), m3.length ≤ 1048576 → m4.length ≤ 1048576 → impl_ownDevice.f x0 x1 c m3 m4 x5 = some (x0, x1, c, m3, m4, x5) := fun x0 x1 c m3 m4 x5 g3 g4 => iOwnD_eq g3 g4 x0 x1 c x5
  have o1 : ∀ (x0 x1 : Int) (c : Bool) (x5 : Int), impl_ownDevice.f x0 x1 c l3 l4 x5 = some (x0, x1, c, l3, l4, x5) := fun x0 x1 c x5 => ho _ _ _ _ _ _ (by omega) (by omega)
  have o2 : ∀ (x0 x1 : Int) (c : Bool) (x5 y : Int), impl_ownDevice.f x0 x1 c (l3 ++ [y]) l4 x5 = some (x0, x1, c, l3 ++ [y], l4, x5) := fun x0 x1 c x5 y => ho _ _ _ _ _ _ (by simp; omega) (by omega)
  have o3 : ∀ (x0 x1 : Int) (c : Bool) (x5 y : Int), impl_ownDevice.f x0 x1 c l3 (l4 ++ [y]) x5 = some (x0, x1, c, l3, l4 ++ [y], x5) := fun x0 x1 c x5 y => ho _ _ _ _ _ _ (by omega) (by simp; omega)
  have o4 : ∀ (x0 x1 : Int) (c : Bool) (x5 : Int), impl_ownDevice.f x0 x1 c [] l4 x5 = some (x0, x1, c, [], l4, x5) := fun x0 x1 c x5 => ho _ _ _ _ _ _ (by simp) (by omega)
  have o5 : ∀ (x0 x1 : Int) (c : Bool) (x5 : Int), impl_ownDevice.f x0 x1 c (l3.drop 1) l4 x5 = some (x0, x1, c, l3.drop 1, l4, x5) := fun x0 x1 c x5 => ho _ _ _ _ _ _ (by simp; omega) (by omega)
  have hm := mn_1000 h.2.2.2.2
  rw [impl_StepDevice.j0, if_neg (by simp), o1, Option.bind_some]
  simp only
  unfold stepD
  by_cases c1 : k = 1
  · simp only [c1, if_true, hw]
    by_cases d1 : a0 = 0
    · simp [d1, o1]
    · by_cases d2 : a1 - 1 ≤ 0
      · simp [d1, d2, o1, show a1 ≤ 1 by omega]
      · simp [d1, d2, o1, show ¬ a1 ≤ 1 by omega]
  by_cases c2 : k = 2
  · simp only [c2, if_true, show ¬ (2 : Int) = 1 by decide, if_false, hw2, hm]
    by_cases d1 : l3.length < 4
    · simp [d1, show ¬ (l3.length : Int) = 4 by omega, show l3.length < 17592186044416 by omega, o2]
    · simp [d1, show (l3.length : Int) = 4 by omega, o1]
  by_cases c3 : k = 3
  · simp only [c3, if_true, show ¬ (3 : Int) = 1 by decide, show ¬ (3 : Int) = 2 by decide, if_false, impl_flag.f]
    by_cases d1 : p = 0
    · simp [d1, o1]
    by_cases d2 : p = 1
    · cases b <;> simp [d2, o1]
    by_cases d3 : p = 2
    · by_cases d4 : l3.length = 0
      · obtain rfl : l3 = [] := List.eq_nil_of_length_eq_zero d4
        simp [d3, o1]
      · simp only [d3, show ¬ ((l3.length : Int) = 0) by omega, d4, show (0 : Int) < (l3.length : Int) by omega, show (1 : Int) ≤ (l3.length : Int) by omega, if_true, if_false, show ¬ (2 : Int) = 0 by decide, show ¬ (2 : Int) = 1 by decide, show ((1 : Int)).toNat = 1 from rfl, o5, Option.bind_some]
    · simp [d1, d2, d3, o1]
  · simp only [c1, c2, c3, if_false] at hg ⊢
    by_cases c4 : k = 4
    · simp only [c4, if_true]
      by_cases d1 : p = 0
      · simp [d1, o1]
      by_cases d2 : p = 1
      · simp [d2, o1]
      by_cases d3 : p = 2
      · by_cases d4 : l4.length < 200
        · simp [d3, d4, show (l4.length : Int) < 200 by omega, show l4.length < 17592186044416 by omega, o3]
        · simp [d3, d4, show ¬ (l4.length : Int) < 200 by omega, o1]
      · simp [d1, d2, d3, o4]
    · unfold goodStep at hg
      simp [c1, c2, c3, c4] at hg
/-- A whole step: both answer the same, and the device is a short one. -/
theorem stepDev_both {a0 a1 : Int} {b : Bool} {l3 l4 : List Int} {a5 : Int} (k p v : Int) (h3 : l3.length ≤ 1048576) (h4 : l4.length ≤ 1048576) : ∃ (x0 x1 : Int) (c : Bool) (m3 m4 : List Int) (x5 t : Int) (o : Bool), m3.length ≤ 200 ∧ m4.length ≤ 200 ∧
    spec_StepDevice.f 4194304 a0 a1 b l3 l4 a5 k p v = some (x0, x1, c, m3, m4, x5, t, o) ∧ impl_StepDevice.f 4194304 a0 a1 b l3 l4 a5 k p v = some (x0, x1, c, m3, m4, x5, t, o) ∧
    (goodDev a0 a1 l3 l4 a5 = true → goodStep k p v = true → (x0, x1, c, m3, m4, x5, t) = stepD a0 a1 b l3 l4 a5 k p v ∧ o = true) ∧ ((goodDev a0 a1 l3 l4 a5 && goodStep k p v) = false → (x0, x1, c, m3, m4, x5, t, o) = (0, 0, false, [], [], 0, 0, false)) := by
  have f3 : Fits 4194304 l3.length := ⟨h3, by omega⟩
  have f4 : Fits 4194304 l4.length := ⟨h4, by omega⟩
  unfold spec_StepDevice.f impl_StepDevice.f
  rw [lDev_eq f3 f4, iDev_eq f3 f4, Option.bind_some, Option.bind_some, lStep_eq, iStep_eq, Option.bind_some, Option.bind_some]
  cases hd : goodDev a0 a1 l3 l4 a5 with
  | false =>
    refine ⟨0, 0, false, [], [], 0, 0, false, by simp, by simp, ?_, ?_, by simp, by simp⟩
    · rw [if_neg (by simp), show (4194304 : Nat) = 4194303 + 1 from rfl, spec_StepDevice.j0, if_pos rfl]
    · rw [if_neg (by simp), show (4194304 : Nat) = 4194303 + 1 from rfl, impl_StepDevice.j0, if_pos rfl]
  | true =>
    have hi := goodDev_inv hd
    rw [if_pos rfl, if_pos rfl]
    cases hs : goodStep k p v with
    | false =>
      refine ⟨0, 0, false, [], [], 0, 0, false, by simp, by simp, ?_, ?_, by simp, by simp⟩
      · rw [show (4194304 : Nat) = 4194303 + 1 from rfl, spec_StepDevice.j0, if_pos (by simp)]
      · rw [show (4194304 : Nat) = 4194303 + 1 from rfl, impl_StepDevice.j0, if_pos (by simp)]
    | true =>
      have hv := stepD_inv (b := b) hi hs
      unfold InvD at hv
      refine ⟨_, _, _, _, _, _, _, true, ?_, ?_, ?_, iStepD_eq 4194303 hi hs, fun _ _ => ⟨rfl, rfl⟩, by simp⟩
      · omega
      · omega
      · rw [show (4194304 : Nat) = 4194303 + 1 from rfl, spec_StepDevice.j0, if_neg (by simp), lOwnD_eq h3 h4, Option.bind_some]
        simp only
        rw [lStepD_eq hi hs, Option.bind_some]
theorem bindList {α β : Type} {Q : β → Prop} {X : List α} {F : List α → Option β} {n : Nat} (hX : X.length = n) (h : ∀ y : List α, y.length = n → ∃ p, F y = some p ∧ Q p) : ∃ p, (some X).bind F = some p ∧ Q p := h X hX
theorem wOne {a : Int} (h0 : 0 ≤ a) (h1 : a ≤ 4611686018427387904) : wrap64 (a + 1) = a + 1 := wrap64_id (by omega) (by omega)
theorem rdSL {l : List S37} {i : Nat} (h : i < l.length) : rd_T37 l (i : Int) = l[i] := by
  simp [rd_T37, h]
theorem rdSI {l : List S39} {i : Nat} (h : i < l.length) : rd_T39 l (i : Int) = l[i] := by
  simp [rd_T39, h]
/-- What the copy of one step is. -/
def convS (x : S37) : S39 := ⟨x.f0, x.f1, x.f2⟩
theorem toStepS_loop (l : List S37) (hl : l.length ≤ 1048576) : ∀ (m i k : Nat), i + m = l.length → m < k →
    laws_toDevStepS.l0 k l ((l.take i).map convS ++ List.replicate m z39) (i : Int) = some (l.map convS)
  | 0, i, k, h, hk => by
    obtain ⟨k, rfl⟩ : ∃ n, k = n + 1 := ⟨k - 1, by omega⟩
    rw [laws_toDevStepS.l0, if_neg (by omega), List.take_of_length_le (by omega)]
    simp
  | m + 1, i, k, h, hk => by
    obtain ⟨k, rfl⟩ : ∃ n, k = n + 1 := ⟨k - 1, by omega⟩
    have hi : i < l.length := by omega
    rw [laws_toDevStepS.l0, if_pos (by omega), if_pos (by omega), rdSL hi]
    unfold laws_toDevStep.f
    simp only [Option.bind_some]
    rw [if_pos (by simp; omega), stepNat hi hl, Int.toNat_natCast]
    change laws_toDevStepS.l0 k l (((l.take i).map convS ++ List.replicate (m + 1) z39).set i (convS l[i])) ((i + 1 : Nat) : Int) = _
    rw [setMap convS z39 l i m h]
    exact toStepS_loop l hl m (i + 1) k (by omega) (by omega)
theorem toStepS_eq {l : List S37} {k : Nat} (h : Fits k l.length) : laws_toDevStepS.f k l = some (l.map convS) := by
  unfold laws_toDevStepS.f
  rw [if_pos (by omega), if_pos (by rw [Int.toNat_natCast]; have := h.1; omega)]
  have := toStepS_loop l h.1 l.length 0 k (by omega) h.2
  simpa using this
theorem eqStep_self (a b c : Int) : laws_eqDevStep.f a b c a b c = some true := by simp [laws_eqDevStep.f]
theorem eqStepS_loop (l : List S39) (hl : l.length ≤ 1048576) : ∀ (m i k : Nat), i + m = l.length → m < k → laws_eqDevStepS.l0 k l l (i : Int) = some true
  | 0, i, k, h, hk => by
    obtain ⟨k, rfl⟩ : ∃ n, k = n + 1 := ⟨k - 1, by omega⟩
    rw [laws_eqDevStepS.l0, if_neg (by omega)]
  | m + 1, i, k, h, hk => by
    obtain ⟨k, rfl⟩ : ∃ n, k = n + 1 := ⟨k - 1, by omega⟩
    have hi : i < l.length := by omega
    rw [laws_eqDevStepS.l0, if_pos (by omega), if_pos (by omega), if_pos (by omega), eqStep_self, Option.bind_some, if_pos rfl, stepNat hi hl]
    exact eqStepS_loop l hl m (i + 1) k (by omega) (by omega)
theorem eqStepS_eq {l : List S39} {k : Nat} (h : Fits k l.length) : laws_eqDevStepS.f k l l = some true := by
  unfold laws_eqDevStepS.f
  rw [if_pos rfl]
  exact eqStepS_loop l h.1 l.length 0 k (by omega) h.2
theorem szStepS_eq (l : List S37) (a : Int) (ha : 0 ≤ a ∧ a ≤ 1048576) (h : l.length ≤ 9223372036854775807) : ∃ r, laws_szDevStepS.f l a = some r ∧ (r < 0 ∨ (0 ≤ r ∧ r ≤ 1048576 ∧ l.length ≤ 1048576)) := by
  unfold laws_szDevStepS.f
  rw [wrap64_id (by omega) (by omega)]
  by_cases h : a - (l.length : Int) < 0
  · rw [if_pos h]
    exact ⟨-1, rfl, Or.inl (by omega)⟩
  · rw [if_neg h]
    exact ⟨_, rfl, Or.inr (by omega)⟩
theorem markStepS_l0 (n : Nat) (hn : n ≤ 1048576) : ∀ (d k i : Nat) (a : Int) (x : List S39), x.length = n → i + d = n → d < k → 0 ≤ a → a + 3 * (d : Int) ≤ 4611686018427387904 →
    ∃ p, laws_markDevStepS.l0 k x a (i : Int) = some p ∧ 0 ≤ p.1 := by
  intro d
  induction d with
  | zero =>
    intro k i a x hx hi hk ha _
    obtain ⟨k, rfl⟩ : ∃ m, k = m + 1 := ⟨k - 1, by omega⟩
    rw [laws_markDevStepS.l0, if_neg (by omega)]
    exact ⟨_, rfl, ha⟩
  | succ d ih =>
    intro k i a x hx hi hk ha hb
    obtain ⟨k, rfl⟩ : ∃ m, k = m + 1 := ⟨k - 1, by omega⟩
    have hlt : i < x.length := by omega
    rw [laws_markDevStepS.l0, if_pos (by omega), if_pos (by omega), stepNat (n := n) (by omega) hn]
    rw [wOne ha (by omega), wOne (a := a + 1) (by omega) (by omega), wOne (a := a + 1 + 1) (by omega) (by omega)]
    refine bindList (n := n) (by rw [List.length_set]; exact hx) (fun y1 h1 => ?_)
    refine bindList (n := n) (by rw [List.length_set]; exact h1) (fun y2 h2 => ?_)
    exact ih k (i + 1) (a + 1 + 1 + 1) _ (by rw [List.length_set]; exact h2) (by omega) (by omega) (by omega) (by omega)
theorem markStepS_ok {x : List S39} {k : Nat} (h : Fits k x.length) : ∃ p, laws_markDevStepS.f k x 1 = some p ∧ 0 ≤ p.1 := by
  unfold laws_markDevStepS.f
  exact markStepS_l0 x.length h.1 x.length k 0 1 x rfl (by omega) h.2 (by omega) (by have := h.1; omega)
def goodS (x : S39) : Bool := goodStep x.f0 x.f1 x.f2
theorem iSteps_loop (l : List S39) (hl : l.length ≤ 1048576) : ∀ (m i k : Nat), i + m = l.length → m < k →
    ∃ r, slices_IndexFunc_81_g57.l0 k l (l.length : Int) (i : Int) = some r ∧ decide (r ≥ 0) = !(l.drop i).all goodS
  | 0, i, k, h, hk => by
    obtain ⟨k, rfl⟩ : ∃ n, k = n + 1 := ⟨k - 1, by omega⟩
    rw [slices_IndexFunc_81_g57.l0, if_neg (by omega), List.drop_of_length_le (by omega)]
    exact ⟨_, rfl, rfl⟩
  | m + 1, i, k, h, hk => by
    obtain ⟨k, rfl⟩ : ∃ n, k = n + 1 := ⟨k - 1, by omega⟩
    have hi : i < l.length := by omega
    have h1 : impl_PlayDevice_1.f l[i].f0 l[i].f1 l[i].f2 = some (!goodS l[i]) := by
      unfold impl_PlayDevice_1.f
      rw [iStep_eq]
      rfl
    rw [slices_IndexFunc_81_g57.l0, if_pos (by omega), if_pos (by omega), if_pos (by omega), rdSI hi, h1, Option.bind_some, List.drop_eq_getElem_cons hi, List.all_cons, stepNat hi hl]
    cases hb : goodS l[i] with
    | false => exact ⟨_, rfl, by simp⟩
    | true =>
      rw [if_neg (by simp), Bool.true_and]
      exact iSteps_loop l hl m (i + 1) k (by omega) (by omega)
theorem iSteps_eq {l : List S39} {k : Nat} (h : Fits k l.length) : slices_ContainsFunc_56_g57.f k l = some (!l.all goodS) := by
  unfold slices_ContainsFunc_56_g57.f slices_IndexFunc_81_g57.f
  obtain ⟨r, h1, h2⟩ := iSteps_loop l h.1 l.length 0 k (by omega) h.2
  rw [show ((0 : Nat) : Int) = 0 from rfl] at h1
  rw [h1]
  simp only [Option.bind_some, h2, List.drop_zero]
theorem iPlay_one (k i : Nat) (acc : List Int) (l : List S39) (hl : l.length ≤ 1048576) (hi : i < l.length) (hacc : acc.length ≤ 1048576) {a0 a1 : Int} {b : Bool} {l3 l4 : List Int} {a5 : Int} (h : InvD a0 a1 l3 l4 a5) (hg : goodS l[i] = true) :
    impl_PlayDevice.l0 (k + 1) acc l (l.length : Int) (i : Int) a0 a1 b l3 l4 a5 = impl_PlayDevice.l0 k (acc ++ [(stepD a0 a1 b l3 l4 a5 l[i].f0 l[i].f1 l[i].f2).2.2.2.2.2.2]) l (l.length : Int) ((i + 1 : Nat) : Int) (stepD a0 a1 b l3 l4 a5 l[i].f0 l[i].f1 l[i].f2).1 (stepD a0 a1 b l3 l4 a5 l[i].f0 l[i].f1 l[i].f2).2.1 (stepD a0 a1 b l3 l4 a5 l[i].f0 l[i].f1 l[i].f2).2.2.1 (stepD a0 a1 b l3 l4 a5 l[i].f0 l[i].f1 l[i].f2).2.2.2.1 (stepD a0 a1 b l3 l4 a5 l[i].f0 l[i].f1 l[i].f2).2.2.2.2.1 (stepD a0 a1 b l3 l4 a5 l[i].f0 l[i].f1 l[i].f2).2.2.2.2.2.1 := by
  unfold InvD at h
  have hw : wrap64 (a1 - 1) = a1 - 1 := wrap64_id (by omega) (by omega)
  have hw2 : wrap64 (a5 + 1) = a5 + 1 := wrap64_id (by omega) (by omega)
  have hm := mn_1000 h.2.2.2.2
  have hA : acc.length < 17592186044416 := by omega
  rw [impl_PlayDevice.l0, if_pos (by omega), if_pos (by omega), if_pos (by omega), rdSI hi, stepNat hi hl]
  unfold goodS at hg
  generalize l[i].f0 = kd at *
  generalize l[i].f1 = p at *
  generalize l[i].f2 = v at *
  unfold stepD
  by_cases c1 : kd = 1
  · simp only [c1, if_true, hw, hA]
    by_cases d1 : a0 = 0
    · simp [d1]
    · by_cases d2 : a1 - 1 ≤ 0
      · simp [d1, d2, show a1 ≤ 1 by omega]
      · simp [d1, d2, show ¬ a1 ≤ 1 by omega]
  by_cases c2 : kd = 2
  · simp only [c2, if_true, show ¬ (2 : Int) = 1 by decide, if_false, hw2, hm, hA]
    by_cases d1 : l3.length < 4
    · simp [d1, show ¬ (l3.length : Int) = 4 by omega, show l3.length < 17592186044416 by omega]
    · simp [d1, show (l3.length : Int) = 4 by omega]
  by_cases c3 : kd = 3
  · simp only [c3, if_true, show ¬ (3 : Int) = 1 by decide, show ¬ (3 : Int) = 2 by decide, if_false, impl_flag.f, hA]
    by_cases d1 : p = 0
    · simp [d1]
    by_cases d2 : p = 1
    · cases b <;> simp [d2]
    by_cases d3 : p = 2
    · by_cases d4 : l3.length = 0
      · obtain rfl : l3 = [] := List.eq_nil_of_length_eq_zero d4
        simp [d3]
      · simp only [d3, show ¬ ((l3.length : Int) = 0) by omega, d4, show (0 : Int) < (l3.length : Int) by omega, show (1 : Int) ≤ (l3.length : Int) by omega, if_true, if_false, show ¬ (2 : Int) = 0 by decide, show ¬ (2 : Int) = 1 by decide, show ((1 : Int)).toNat = 1 from rfl, hA]
    · simp [d1, d2, d3]
  · simp only [c1, c2, c3, if_false] at hg ⊢
    by_cases c4 : kd = 4
    · simp only [c4, if_true, hA]
      by_cases d1 : p = 0
      · simp [d1]
      by_cases d2 : p = 1
      · simp [d2]
      by_cases d3 : p = 2
      · by_cases d4 : l4.length < 200
        · simp [d3, d4, show (l4.length : Int) < 200 by omega, show l4.length < 17592186044416 by omega]
        · simp [d3, d4, show ¬ (l4.length : Int) < 200 by omega]
      · simp [d1, d2, d3]
    · unfold goodStep at hg
      simp [c1, c2, c3, c4] at hg
theorem lPlay_one (k i : Nat) (acc : List Int) (l : List S39) (hl : l.length ≤ 1048576) (hi : i < l.length) (hacc : acc.length ≤ 1048576) {a0 a1 : Int} {b : Bool} {l3 l4 : List Int} {a5 : Int} (h : InvD a0 a1 l3 l4 a5) (hg : goodS l[i] = true) :
    spec_PlayDevice.l0 (k + 1) acc l (l.length : Int) (i : Int) a0 a1 b l3 l4 a5 = spec_PlayDevice.l0 k (acc ++ [(stepD a0 a1 b l3 l4 a5 l[i].f0 l[i].f1 l[i].f2).2.2.2.2.2.2]) l (l.length : Int) ((i + 1 : Nat) : Int) (stepD a0 a1 b l3 l4 a5 l[i].f0 l[i].f1 l[i].f2).1 (stepD a0 a1 b l3 l4 a5 l[i].f0 l[i].f1 l[i].f2).2.1 (stepD a0 a1 b l3 l4 a5 l[i].f0 l[i].f1 l[i].f2).2.2.1 (stepD a0 a1 b l3 l4 a5 l[i].f0 l[i].f1 l[i].f2).2.2.2.1 (stepD a0 a1 b l3 l4 a5 l[i].f0 l[i].f1 l[i].f2).2.2.2.2.1 (stepD a0 a1 b l3 l4 a5 l[i].f0 l[i].f1 l[i].f2).2.2.2.2.2.1 := by
  have hA : acc.length < 17592186044416 := by omega
  have hgs : spec_l5Good.f l[i].f0 l[i].f1 l[i].f2 = some true := by rw [lStep_eq]; exact congrArg some hg
  rw [spec_PlayDevice.l0, if_pos (by omega), if_pos (by omega), if_pos (by omega), rdSI hi, stepNat hi hl, hgs, Option.bind_some, if_pos rfl, lStepD_eq h hg, Option.bind_some, if_pos hA]
theorem play_yes (l : List S39) (hl : l.length ≤ 1048576) : ∀ (d i : Nat) (acc : List Int) (a0 a1 : Int) (b : Bool) (l3 l4 : List Int) (a5 : Int), i + d = l.length → acc.length + d ≤ 1048576 → InvD a0 a1 l3 l4 a5 → (l.drop i).all goodS = true →
    ∃ (x0 x1 : Int) (c : Bool) (m3 m4 : List Int) (x5 : Int) (out : List Int), m3.length ≤ 200 ∧ m4.length ≤ 200 ∧ out.length ≤ 1048576 ∧ ∀ k, d < k → spec_PlayDevice.l0 k acc l (l.length : Int) (i : Int) a0 a1 b l3 l4 a5 = some (x0, x1, c, m3, m4, x5, out, true) ∧ impl_PlayDevice.l0 k acc l (l.length : Int) (i : Int) a0 a1 b l3 l4 a5 = some (x0, x1, c, m3, m4, x5, out, true) := by
  intro d
  induction d with
  | zero =>
    intro i acc a0 a1 b l3 l4 a5 hi hacc hv _
    unfold InvD at hv
    refine ⟨a0, a1, b, l3, l4, a5, acc, by omega, by omega, by omega, fun k hk => ?_⟩
    obtain ⟨k, rfl⟩ : ∃ m, k = m + 1 := ⟨k - 1, by omega⟩
    rw [spec_PlayDevice.l0, impl_PlayDevice.l0, if_neg (by omega), if_neg (by omega), lOwnD_eq (by omega) (by omega), iOwnD_eq (by omega) (by omega)]
    exact ⟨rfl, rfl⟩
  | succ d ih =>
    intro i acc a0 a1 b l3 l4 a5 hi hacc hv hall
    have hlt : i < l.length := by omega
    rw [List.drop_eq_getElem_cons hlt, List.all_cons, Bool.and_eq_true] at hall
    have hvi := stepD_inv (b := b) hv hall.1
    obtain ⟨x0, x1, c, m3, m4, x5, out, h1, h2, h3, h4⟩ := ih (i + 1) (acc ++ [(stepD a0 a1 b l3 l4 a5 l[i].f0 l[i].f1 l[i].f2).2.2.2.2.2.2]) _ _ (stepD a0 a1 b l3 l4 a5 l[i].f0 l[i].f1 l[i].f2).2.2.1 _ _ _ (by omega) (by simp; omega) hvi hall.2
    refine ⟨x0, x1, c, m3, m4, x5, out, h1, h2, h3, fun k hk => ?_⟩
    obtain ⟨k, rfl⟩ : ∃ m, k = m + 1 := ⟨k - 1, by omega⟩
    rw [lPlay_one k i acc l hl hlt (by omega) hv hall.1, iPlay_one k i acc l hl hlt (by omega) hv hall.1]
    exact h4 k (by omega)
theorem play_no (l : List S39) (hl : l.length ≤ 1048576) : ∀ (d i : Nat) (acc : List Int) (a0 a1 : Int) (b : Bool) (l3 l4 : List Int) (a5 : Int), i + d = l.length → acc.length + d ≤ 1048576 → InvD a0 a1 l3 l4 a5 → (l.drop i).all goodS = false →
    ∀ k, d < k → spec_PlayDevice.l0 k acc l (l.length : Int) (i : Int) a0 a1 b l3 l4 a5 = some (0, 0, false, [], [], 0, [], false) := by
  intro d
  induction d with
  | zero =>
    intro i acc a0 a1 b l3 l4 a5 hi hacc hv hall
    rw [List.drop_of_length_le (by omega)] at hall
    simp at hall
  | succ d ih =>
    intro i acc a0 a1 b l3 l4 a5 hi hacc hv hall k hk
    have hlt : i < l.length := by omega
    obtain ⟨k, rfl⟩ : ∃ m, k = m + 1 := ⟨k - 1, by omega⟩
    rw [List.drop_eq_getElem_cons hlt, List.all_cons] at hall
    cases hg : goodS l[i] with
    | true =>
      rw [hg, Bool.true_and] at hall
      have hvi := stepD_inv (b := b) hv hg
      rw [lPlay_one k i acc l hl hlt (by omega) hv hg]
      exact ih (i + 1) _ _ _ (stepD a0 a1 b l3 l4 a5 l[i].f0 l[i].f1 l[i].f2).2.2.1 _ _ _ (by omega) (by simp; omega) hvi hall k (by omega)
    | false =>
      have hgs : spec_l5Good.f l[i].f0 l[i].f1 l[i].f2 = some false := by rw [lStep_eq]; exact congrArg some hg
      rw [spec_PlayDevice.l0, if_pos (by omega), if_pos (by omega), if_pos (by omega), rdSI hlt, hgs, Option.bind_some, if_neg (by simp)]
theorem play_same (l : List S37) (s0 : l.length ≤ 1048576) : ∃ (x0 x1 : Int) (c : Bool) (m3 m4 : List Int) (x5 : Int) (out : List Int) (o : Bool), m3.length ≤ 200 ∧ m4.length ≤ 200 ∧ out.length ≤ 1048576 ∧ spec_PlayDevice.f 4194304 (l.map convS) = some (x0, x1, c, m3, m4, x5, out, o) ∧ impl_PlayDevice.f 4194304 (l.map convS) = some (x0, x1, c, m3, m4, x5, out, o) := by
  have s1 : (l.map convS).length ≤ 1048576 := by simpa using s0
  have f1 : Fits 4194304 (l.map convS).length := ⟨s1, by omega⟩
  have hv0 : InvD 8 8 [] [] 0 := by unfold InvD; simp
  have hj : impl_PlayDevice.j0 4194304 (l.map convS) true = some (0, 0, false, [], [], 0, [], false) := by
    rw [show (4194304 : Nat) = 4194303 + 1 from rfl, impl_PlayDevice.j0, if_pos rfl]
  unfold spec_PlayDevice.f impl_PlayDevice.f spec_NewDevice.f
  by_cases hn : ((l.map convS).length : Int) > 80
  · rw [if_pos hn, if_pos hn, hj]
    exact ⟨0, 0, false, [], [], 0, [], false, by simp, by simp, by simp, rfl, rfl⟩
  · rw [if_neg hn, if_neg hn, iSteps_eq f1, Option.bind_some, Option.bind_some]
    cases ha : (l.map convS).all goodS with
    | true =>
      obtain ⟨x0, x1, c, m3, m4, x5, out, h1, h2, h3, h4⟩ := play_yes (l.map convS) s1 (l.map convS).length 0 [] 8 8 false [] [] 0 (by omega) (by simp; omega) hv0 (by simpa using ha)
      refine ⟨x0, x1, c, m3, m4, x5, out, true, h1, h2, h3, (h4 4194304 (by omega)).1, ?_⟩
      rw [show (4194304 : Nat) = 4194303 + 1 from rfl, impl_PlayDevice.j0, if_neg (by simp)]
      rw [impl_NewDevice.f, Option.bind_some]
      exact (h4 4194303 (by omega)).2
    | false =>
      refine ⟨0, 0, false, [], [], 0, [], false, by simp, by simp, by simp, ?_, hj⟩
      exact play_no (l.map convS) s1 (l.map convS).length 0 [] 8 8 false [] [] 0 (by omega) (by simp; omega) hv0 (by simpa using ha) 4194304 (by omega)
theorem FnExactPlayDevice : ∀ (l0 : (List S37)), l0.length ≤ 9223372036854775807 → ∃ k, laws_FnExactPlayDevice.f k l0 = some true := by
  intro l h
  obtain ⟨r, hr, hc⟩ := szStepS_eq l 1048576 (by omega) h
  rcases hc with hc | ⟨q0, _, s0⟩
  · refine ⟨0, ?_⟩
    unfold laws_FnExactPlayDevice.f
    rw [hr, Option.bind_some, if_pos hc]
  · refine ⟨4194304, ?_⟩
    have f0 : Fits 4194304 l.length := ⟨s0, by omega⟩
    have s1 : (l.map convS).length ≤ 1048576 := by simpa using s0
    have f1 : Fits 4194304 (l.map convS).length := ⟨s1, by omega⟩
    obtain ⟨mk, hm, hm0⟩ := markStepS_ok f1
    have hs := play_same l s0
    obtain ⟨x0, x1, c, m3, m4, x5, out, o, g3, g4, g5, e1, e2⟩ := hs
    have k3 : Fits 4194304 m3.length := ⟨by omega, by omega⟩
    have k4 : Fits 4194304 m4.length := ⟨by omega, by omega⟩
    have hq : laws_eqIntS.f 4194304 out out = some true := eqIntS_self out (by omega) _ (by omega)
    have hmo := markIntS_eq out (1 + (m3.length : Int) + (m4.length : Int)) 4194304 (by omega) (by omega) (by omega)
    have hho := heldIntS_upto out.length (1 + (m3.length : Int) + (m4.length : Int)) 4194304 (by omega) (by omega) (by omega)
    unfold laws_FnExactPlayDevice.f
    rw [hr, Option.bind_some, if_neg (by omega), toStepS_eq f0]
    simp only [Option.bind_some, e1, e2, eqDev_eq k3 k4, hq, eqStepS_eq f1, hm, markDev_eq k3 k4, heldDev_eq k3 k4, hmo, hho, if_true, bne_self_eq_false, Bool.false_eq_true, if_false, show ¬ (mk.1 < 0) by omega, show ¬ (1 + (m3.length : Int) + (m4.length : Int) < 0) by omega, show ¬ (1 + (m3.length : Int) + (m4.length : Int) + (out.length : Int) < 0) by omega]

end Go.Proofs.Ytdkodgchdhcjlaa.Pure
