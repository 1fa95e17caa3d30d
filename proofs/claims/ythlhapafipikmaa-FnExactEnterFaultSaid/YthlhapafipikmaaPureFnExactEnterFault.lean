/- The law FnExactEnterFault as a plain function answers true for all arguments (numbers of 64 bits, lists of at most 2^63 - 1 elements). No other condition. -/
import Derived.Test.YthlhapafipikmaaEx32
import Derived.Test.YthlhapafipikmaaMath
set_option linter.unusedVariables false
set_option linter.unusedSimpArgs false
namespace Go.Proofs.Ythlhapafipikmaa.Pure
open Go.RowKit Go.Proofs.Ythlhapafipikmaa.E Go.Proofs.YthlhapafipikmaaW.PrintWords Go.Proofs.YthlhapafipikmaaW.PrintLast Go.Proofs.Ythlhapafipikmaa.Math

theorem l1In_eq (a b c : Int) : spec_l1In.f a b c = some (decide (b ≤ a ∧ a ≤ c)) := by
  unfold spec_l1In.f
  by_cases h : b ≤ a <;> simp [h]
theorem within_eq (a b c : Int) : impl_within.f a b c = some (decide (b ≤ a ∧ a ≤ c)) := by
  unfold impl_within.f
  by_cases h : b ≤ a <;> simp [h]
theorem l6Word_eq (a : Int) : spec_l6Word.f a = some (decide (0 ≤ a ∧ a ≤ 65535)) := by
  unfold spec_l6Word.f
  rw [l1In_eq]
  rfl
theorem isWord_eq (a : Int) : impl_isWord.f a = some (decide (0 ≤ a ∧ a ≤ 65535)) := by
  unfold impl_isWord.f
  rw [within_eq]
  rfl
theorem lSize_eq (s : Int) : spec_l1Size.f s = some (decide (s = 1 ∨ s = 2)) := by
  unfold spec_l1Size.f
  by_cases h : s = 1
  · simp [h]
  · by_cases h2 : s = 2 <;> simp [h, h2]
theorem isSize_eq (s : Int) : impl_isSize.f s = some (decide (s = 1 ∨ s = 2)) := by
  unfold impl_isSize.f
  by_cases h : s = 1
  · simp [h]
  · by_cases h2 : s = 2 <;> simp [h, h2]
/-- How many values a size has. -/
def top (s : Int) : Int := if s = 1 then 256 else 65536
theorem lTop_1 : spec_l1Top.f 1 = some 256 := by decide +kernel
theorem lTop_2 : spec_l1Top.f 2 = some 65536 := by decide +kernel
theorem limit_1 : impl_limitOf.f 1 = some 256 := by decide +kernel
theorem limit_2 : impl_limitOf.f 2 = some 65536 := by decide +kernel
theorem lTop_eq {s : Int} (h : s = 1 ∨ s = 2) : spec_l1Top.f s = some (top s) := by
  rcases h with rfl | rfl
  · exact lTop_1
  · exact lTop_2
theorem limit_eq {s : Int} (h : s = 1 ∨ s = 2) : impl_limitOf.f s = some (top s) := by
  rcases h with rfl | rfl
  · exact limit_1
  · exact limit_2
theorem top_le {s : Int} : 256 ≤ top s ∧ top s ≤ 65536 := by unfold top; split <;> omega
/-- Whether v is a value of size s. -/
def isVal (s v : Int) : Bool := decide ((s = 1 ∨ s = 2) ∧ 0 ≤ v ∧ v < top s)
theorem isVal_iff {s v : Int} : isVal s v = true ↔ (s = 1 ∨ s = 2) ∧ 0 ≤ v ∧ v < top s := by simp [isVal]
theorem lValue_eq (s v : Int) : spec_l1Value.f s v = some (isVal s v) := by
  unfold spec_l1Value.f isVal
  rw [lSize_eq]
  by_cases h : s = 1 ∨ s = 2
  · have ht := @top_le s
    simp only [Option.bind_some, decide_eq_true_eq, h, if_true, lTop_eq h, l1In_eq, wrap64_id (n := top s - 1) (by omega) (by omega), true_and]
    congr 1
    rw [decide_eq_decide]
    omega
  · simp [h]
theorem isValue_eq (s v : Int) : impl_isValue.f s v = some (isVal s v) := by
  unfold impl_isValue.f isVal
  rw [isSize_eq]
  by_cases h : s = 1 ∨ s = 2
  · have ht := @top_le s
    simp only [Option.bind_some, decide_eq_true_eq, h, if_true, limit_eq h, within_eq, wrap64_id (n := top s - 1) (by omega) (by omega), true_and]
    congr 1
    rw [decide_eq_decide]
    omega
  · simp [h]
theorem stepNat {i n : Nat} (h : i < n) (hn : n ≤ 1048576) : wrap64 ((i : Int) + 1) = ((i + 1 : Nat) : Int) := by
  rw [wrap64_id (by omega) (by omega)]
  omega
theorem rdI {l : List Int} {i : Nat} (h : i < l.length) : rd l (i : Int) = l[i] := by
  simp [rd, List.getElem?_eq_getElem h]
theorem setMap {α β : Type} (f : α → β) (z : β) (l : List α) (i m : Nat) (h : i + (m + 1) = l.length) :
    ((l.take i).map f ++ List.replicate (m + 1) z).set i (f (l[i]'(by omega))) = (l.take (i + 1)).map f ++ List.replicate m z := by
  have hi : i < l.length := by omega
  rw [List.set_append_right _ _ (by simp; omega), List.take_succ_eq_append_getElem hi, List.map_append, List.append_assoc]
  congr 1
  have : i - ((l.take i).map f).length = 0 := by simp; omega
  rw [this, List.replicate_succ]
  rfl
/-- The four lists of a processor are short, and the rounds are enough for them. -/
def Fits (k : Nat) (n : Nat) : Prop := n ≤ 1048576 ∧ n < k
theorem eqInt_loop (l : List Int) (hl : l.length ≤ 1048576) : ∀ (m i k : Nat), i + m = l.length → m < k → laws_eqIntS.l0 k l l (i : Int) = some true
  | 0, i, k, h, hk => by
    obtain ⟨k, rfl⟩ : ∃ n, k = n + 1 := ⟨k - 1, by omega⟩
    rw [laws_eqIntS.l0, if_neg (by omega)]
  | m + 1, i, k, h, hk => by
    obtain ⟨k, rfl⟩ : ∃ n, k = n + 1 := ⟨k - 1, by omega⟩
    have hi : i < l.length := by omega
    rw [laws_eqIntS.l0, if_pos (by omega), if_pos (by omega), if_pos (by omega), if_pos rfl, stepNat hi hl]
    exact eqInt_loop l hl m (i + 1) k (by omega) (by omega)
theorem eqInt_eq {l : List Int} (hl : l.length ≤ 1048576) {k : Nat} (hk : l.length < k) : laws_eqIntS.f k l l = some true := by
  unfold laws_eqIntS.f
  rw [if_pos rfl]
  exact eqInt_loop l hl l.length 0 k (by omega) hk
theorem rdL {l : List S120} {i : Nat} (h : i < l.length) : rd_T120 l (i : Int) = l[i] := by
  simp [rd_T120, h]
theorem rdA {l : List S115} {i : Nat} (h : i < l.length) : rd_T115 l (i : Int) = l[i] := by
  simp [rd_T115, h]
/-- What the copy of one access is. -/
def convA (x : S120) : S115 := ⟨x.f0, x.f1, x.f2, x.f3, x.f4⟩
theorem toInt_loop (l : List Int) (hl : l.length ≤ 1048576) : ∀ (m i k : Nat), i + m = l.length → m < k →
    laws_toIntS.l0 k l ((l.take i).map id ++ List.replicate m 0) (i : Int) = some l
  | 0, i, k, h, hk => by
    obtain ⟨k, rfl⟩ : ∃ n, k = n + 1 := ⟨k - 1, by omega⟩
    rw [laws_toIntS.l0, if_neg (by omega), List.take_of_length_le (by omega)]
    simp
  | m + 1, i, k, h, hk => by
    obtain ⟨k, rfl⟩ : ∃ n, k = n + 1 := ⟨k - 1, by omega⟩
    have hi : i < l.length := by omega
    rw [laws_toIntS.l0, if_pos (by omega), if_pos (by omega), rdI hi, if_pos (by simp; omega), stepNat hi hl, Int.toNat_natCast]
    have := setMap id (0 : Int) l i m h
    simp only [id] at this
    change laws_toIntS.l0 k l (((l.take i).map id ++ List.replicate (m + 1) 0).set i l[i]) ((i + 1 : Nat) : Int) = _
    rw [this]
    exact toInt_loop l hl m (i + 1) k (by omega) (by omega)
theorem toInt_eq {l : List Int} (hl : l.length ≤ 1048576) {k : Nat} (hk : l.length < k) : laws_toIntS.f k l = some l := by
  unfold laws_toIntS.f
  rw [if_pos (by omega), if_pos (by rw [Int.toNat_natCast]; omega)]
  have := toInt_loop l hl l.length 0 k (by omega) hk
  simpa using this
theorem toAcc_loop (l : List S120) (hl : l.length ≤ 1048576) : ∀ (m i k : Nat), i + m = l.length → m < k →
    laws_toAccessS.l0 k l ((l.take i).map convA ++ List.replicate m z115) (i : Int) = some (l.map convA)
  | 0, i, k, h, hk => by
    obtain ⟨k, rfl⟩ : ∃ n, k = n + 1 := ⟨k - 1, by omega⟩
    rw [laws_toAccessS.l0, if_neg (by omega), List.take_of_length_le (by omega)]
    simp
  | m + 1, i, k, h, hk => by
    obtain ⟨k, rfl⟩ : ∃ n, k = n + 1 := ⟨k - 1, by omega⟩
    have hi : i < l.length := by omega
    rw [laws_toAccessS.l0, if_pos (by omega), if_pos (by omega), rdL hi]
    unfold laws_toAccess.f
    rw [Option.bind_some, if_pos (by simp; omega), stepNat hi hl, Int.toNat_natCast]
    change laws_toAccessS.l0 k l (((l.take i).map convA ++ List.replicate (m + 1) z115).set i (convA l[i])) ((i + 1 : Nat) : Int) = _
    rw [setMap convA z115 l i m h]
    exact toAcc_loop l hl m (i + 1) k (by omega) (by omega)
theorem toAcc_eq {l : List S120} (hl : l.length ≤ 1048576) {k : Nat} (hk : l.length < k) : laws_toAccessS.f k l = some (l.map convA) := by
  unfold laws_toAccessS.f
  rw [if_pos (by omega), if_pos (by rw [Int.toNat_natCast]; omega)]
  have := toAcc_loop l hl l.length 0 k (by omega) hk
  simpa using this
theorem eqAcc_loop (l : List S115) (hl : l.length ≤ 1048576) : ∀ (m i k : Nat), i + m = l.length → m < k → laws_eqAccessS.l0 k l l (i : Int) = some true
  | 0, i, k, h, hk => by
    obtain ⟨k, rfl⟩ : ∃ n, k = n + 1 := ⟨k - 1, by omega⟩
    rw [laws_eqAccessS.l0, if_neg (by omega)]
  | m + 1, i, k, h, hk => by
    obtain ⟨k, rfl⟩ : ∃ n, k = n + 1 := ⟨k - 1, by omega⟩
    have hi : i < l.length := by omega
    have hs : ∀ a b c d e, laws_eqAccess.f a b c d e a b c d e = some true := fun a b c d e => by simp [laws_eqAccess.f]
    rw [laws_eqAccessS.l0, if_pos (by omega), if_pos (by omega), if_pos (by omega), hs, Option.bind_some, if_pos rfl, stepNat hi hl]
    exact eqAcc_loop l hl m (i + 1) k (by omega) (by omega)
theorem eqAcc_eq {l : List S115} (hl : l.length ≤ 1048576) {k : Nat} (hk : l.length < k) : laws_eqAccessS.f k l l = some true := by
  unfold laws_eqAccessS.f
  rw [if_pos rfl]
  exact eqAcc_loop l hl l.length 0 k (by omega) hk
theorem szOne (l : List Int) (a : Int) (ha : 0 ≤ a ∧ a ≤ 1048576) (h : l.length ≤ 9223372036854775807) : ∃ r, laws_szIntS.f l a = some r ∧ (r < 0 ∨ (0 ≤ r ∧ r ≤ 1048576 ∧ l.length ≤ 1048576)) := by
  unfold laws_szIntS.f
  rw [wrap64_id (by omega) (by omega)]
  by_cases h : a - (l.length : Int) < 0
  · rw [if_pos h]
    exact ⟨-1, rfl, Or.inl (by omega)⟩
  · rw [if_neg h]
    exact ⟨_, rfl, Or.inr (by omega)⟩
theorem szAcc (l : List S120) (a : Int) (ha : 0 ≤ a ∧ a ≤ 1048576) (h : l.length ≤ 9223372036854775807) : ∃ r, laws_szAccessS.f l a = some r ∧ (r < 0 ∨ (0 ≤ r ∧ r ≤ 1048576 ∧ l.length ≤ 1048576)) := by
  unfold laws_szAccessS.f
  rw [wrap64_id (by omega) (by omega)]
  by_cases h : a - (l.length : Int) < 0
  · rw [if_pos h]
    exact ⟨-1, rfl, Or.inl (by omega)⟩
  · rw [if_neg h]
    exact ⟨_, rfl, Or.inr (by omega)⟩
theorem toCpu_eq {k : Nat} {l0 l1 l8 : List Int} {l9 : List S120} (h0 : Fits k l0.length) (h1 : Fits k l1.length) (h8 : Fits k l8.length) (h9 : Fits k l9.length) (a2 a3 a4 a5 : Int) (a6 a7 a10 a11 : Bool) :
    laws_toCpu.f k l0 l1 a2 a3 a4 a5 a6 a7 l8 l9 a10 a11 = some (l0, l1, a2, a3, a4, a5, a6, a7, l8, l9.map convA, a10, a11) := by
  unfold laws_toCpu.f laws_toRegs.f laws_toBus.f
  rw [toInt_eq h0.1 h0.2, toInt_eq h1.1 h1.2, toInt_eq h8.1 h8.2, toAcc_eq h9.1 h9.2]
  rfl
theorem eqCpu_eq {k : Nat} {l0 l1 l8 : List Int} {l9 : List S115} (h0 : Fits k l0.length) (h1 : Fits k l1.length) (h8 : Fits k l8.length) (h9 : Fits k l9.length) (a2 a3 a4 a5 : Int) (a6 a7 a10 a11 : Bool) :
    laws_eqCpu.f k l0 l1 a2 a3 a4 a5 a6 a7 l8 l9 a10 a11 l0 l1 a2 a3 a4 a5 a6 a7 l8 l9 a10 a11 = some true := by
  unfold laws_eqCpu.f laws_eqRegs.f laws_eqBus.f
  rw [eqInt_eq h0.1 h0.2, eqInt_eq h1.1 h1.2, eqInt_eq h8.1 h8.2, eqAcc_eq h9.1 h9.2]
  simp
theorem szCpu_eq (l0 l1 : List Int) (a2 a3 a4 a5 : Int) (a6 a7 : Bool) (l8 : List Int) (l9 : List S120) (a10 a11 : Bool) (a : Int) (ha : 0 ≤ a ∧ a ≤ 1048576)
    (h0 : l0.length ≤ 9223372036854775807) (h1 : l1.length ≤ 9223372036854775807) (h8 : l8.length ≤ 9223372036854775807) (h9 : l9.length ≤ 9223372036854775807) :
    ∃ r, laws_szCpu.f l0 l1 a2 a3 a4 a5 a6 a7 l8 l9 a10 a11 a = some r ∧ (r < 0 ∨ (0 ≤ r ∧ r ≤ 1048576 ∧ l0.length ≤ 1048576 ∧ l1.length ≤ 1048576 ∧ l8.length ≤ 1048576 ∧ l9.length ≤ 1048576)) := by
  unfold laws_szCpu.f laws_szRegs.f laws_szBus.f
  obtain ⟨r0, e0, c0⟩ := szOne l0 a ha h0
  rw [e0, Option.bind_some]
  rcases c0 with c0 | ⟨p0, q0, s0⟩
  · rw [if_pos c0, Option.bind_some, if_pos (by omega)]
    exact ⟨_, rfl, Or.inl (by omega)⟩
  obtain ⟨r1, e1, c1⟩ := szOne l1 r0 ⟨p0, q0⟩ h1
  rw [if_neg (by omega), e1, Option.bind_some]
  rcases c1 with c1 | ⟨p1, q1, s1⟩
  · rw [if_pos c1, Option.bind_some, if_pos (by omega)]
    exact ⟨_, rfl, Or.inl (by omega)⟩
  obtain ⟨r8, e8, c8⟩ := szOne l8 r1 ⟨p1, q1⟩ h8
  rw [if_neg (by omega), Option.bind_some, if_neg (by omega), e8, Option.bind_some]
  rcases c8 with c8 | ⟨p8, q8, s8⟩
  · rw [if_pos c8, Option.bind_some, if_pos (by omega)]
    exact ⟨_, rfl, Or.inl (by omega)⟩
  obtain ⟨r9, e9, c9⟩ := szAcc l9 r8 ⟨p8, q8⟩ h9
  rw [if_neg (by omega), e9, Option.bind_some]
  rcases c9 with c9 | ⟨p9, q9, s9⟩
  · rw [if_pos c9, Option.bind_some, if_pos (by omega)]
    exact ⟨_, rfl, Or.inl (by omega)⟩
  rw [if_neg (by omega), Option.bind_some, if_neg (by omega)]
  exact ⟨r9, rfl, Or.inr ⟨p9, q9, s0, s1, s8, s9⟩⟩
/-- What a word, a byte, an access is. -/
def isW (x : Int) : Bool := decide (0 ≤ x ∧ x ≤ 65535)
def isBy (x : Int) : Bool := decide (0 ≤ x ∧ x ≤ 255)
def goodAcc (x : S115) : Bool := decide (1 ≤ x.f0 ∧ x.f0 ≤ 3) && (isVal x.f1 x.f3 && (decide (0 ≤ x.f2 ∧ x.f2 ≤ 65535) && (decide (0 ≤ x.f4 ∧ x.f4 ≤ 3) && (x.f0 != 3 || x.f4 != 0))))
theorem lAcc_eq (x : S115) : spec_l4Access.f x.f0 x.f1 x.f2 x.f3 x.f4 = some (goodAcc x) := by
  unfold spec_l4Access.f spec_l4Addr.f goodAcc
  simp only [l1In_eq, lValue_eq, Option.bind_some]
  cases decide (1 ≤ x.f0 ∧ x.f0 ≤ 3) <;> cases isVal x.f1 x.f3 <;> cases decide (0 ≤ x.f2 ∧ x.f2 ≤ 65535) <;> cases decide (0 ≤ x.f4 ∧ x.f4 ≤ 3) <;> by_cases h : x.f0 = 3 <;> simp [h]
theorem iAcc_eq (x : S115) : impl_isAccess.f x.f0 x.f1 x.f2 x.f3 x.f4 = some (goodAcc x) := by
  unfold impl_isAccess.f goodAcc
  simp only [within_eq, isWord_eq, isValue_eq, Option.bind_some]
  cases decide (1 ≤ x.f0 ∧ x.f0 ≤ 3) <;> cases isVal x.f1 x.f3 <;> cases decide (0 ≤ x.f2 ∧ x.f2 ≤ 65535) <;> cases decide (0 ≤ x.f4 ∧ x.f4 ≤ 3) <;> by_cases h : x.f0 = 3 <;> simp [h]
  all_goals simp [bne]
theorem lBytes_loop (l : List Int) (hl : l.length ≤ 1048576) : ∀ (m i k : Nat), i + m = l.length → m < k →
    spec_l4Bytes.l0 k l (l.length : Int) (i : Int) = some ((l.drop i).all isBy)
  | 0, i, k, h, hk => by
    obtain ⟨k, rfl⟩ : ∃ n, k = n + 1 := ⟨k - 1, by omega⟩
    rw [spec_l4Bytes.l0, if_neg (by omega), List.drop_of_length_le (by omega)]
    rfl
  | m + 1, i, k, h, hk => by
    obtain ⟨k, rfl⟩ : ∃ n, k = n + 1 := ⟨k - 1, by omega⟩
    have hi : i < l.length := by omega
    rw [spec_l4Bytes.l0, if_pos (by omega), if_pos (by omega), if_pos (by omega), rdI hi, l1In_eq, Option.bind_some, List.drop_eq_getElem_cons hi, List.all_cons, stepNat hi hl]
    change (if isBy l[i] = true then _ else _) = _
    cases isBy l[i] with
    | true =>
      rw [if_pos rfl, Bool.true_and]
      exact lBytes_loop l hl m (i + 1) k (by omega) (by omega)
    | false => rfl
theorem lBytes_eq {l : List Int} {k : Nat} (h : Fits k l.length) : spec_l4Bytes.f k l = some (l.all isBy) := by
  unfold spec_l4Bytes.f
  have := lBytes_loop l h.1 l.length 0 k (by omega) h.2
  simpa using this
def goodBus (l8 : List Int) (l9 : List S115) : Bool := l9.all goodAcc && (((l8.length : Int) == 512) && (l8.all isBy && decide ((l9.length : Int) ≤ 400)))
theorem lBus_loop (l8 : List Int) (hb : l8.length ≤ 1048576) (l : List S115) (hl : l.length ≤ 1048576) : ∀ (m i k : Nat), i + m = l.length → l8.length + 1 + m < k →
    spec_GoodBus.l0 k l (l.length : Int) (i : Int) l8 l = some ((l.drop i).all goodAcc && (((l8.length : Int) == 512) && (l8.all isBy && decide ((l.length : Int) ≤ 400))))
  | 0, i, k, h, hk => by
    obtain ⟨k, rfl⟩ : ∃ n, k = n + 1 := ⟨k - 1, by omega⟩
    have h8' : Fits k l8.length := ⟨hb, by omega⟩
    rw [spec_GoodBus.l0, if_neg (by omega), List.drop_of_length_le (by omega), lBytes_eq h8', Option.bind_some]
    by_cases hc : (l8.length : Int) = 512 <;> cases l8.all isBy <;> simp [hc]
  | m + 1, i, k, h, hk => by
    obtain ⟨k, rfl⟩ : ∃ n, k = n + 1 := ⟨k - 1, by omega⟩
    have hi : i < l.length := by omega
    rw [spec_GoodBus.l0, if_pos (by omega), if_pos (by omega), if_pos (by omega), rdA hi, lAcc_eq, Option.bind_some, List.drop_eq_getElem_cons hi, List.all_cons, stepNat hi hl]
    cases goodAcc l[i] with
    | true =>
      rw [if_pos rfl, Bool.true_and]
      exact lBus_loop l8 hb l hl m (i + 1) k (by omega) (by omega)
    | false => rfl
theorem lBus_eq {l8 : List Int} {l9 : List S115} {k : Nat} (h : l8.length ≤ 1048576 ∧ l9.length ≤ 1048576 ∧ l8.length + l9.length + 2 < k) : spec_GoodBus.f k l8 l9 = some (goodBus l8 l9) := by
  unfold spec_GoodBus.f
  obtain ⟨ha, hb, hc⟩ := h
  have := lBus_loop l8 ha l9 hb l9.length 0 k (by omega) (by omega)
  simpa [goodBus] using this
theorem iBy_loop (l : List Int) (hl : l.length ≤ 1048576) : ∀ (m i k : Nat), i + m = l.length → m < k →
    ∃ r, slices_IndexFunc_127_g98.l0 k l (l.length : Int) (i : Int) = some r ∧ decide (r ≥ 0) = !(l.drop i).all isBy
  | 0, i, k, h, hk => by
    obtain ⟨k, rfl⟩ : ∃ n, k = n + 1 := ⟨k - 1, by omega⟩
    refine ⟨-1, ?_, ?_⟩
    · rw [slices_IndexFunc_127_g98.l0, if_neg (by omega)]
    · rw [List.drop_of_length_le (by omega)]
      rfl
  | m + 1, i, k, h, hk => by
    obtain ⟨k, rfl⟩ : ∃ n, k = n + 1 := ⟨k - 1, by omega⟩
    have hi : i < l.length := by omega
    rw [slices_IndexFunc_127_g98.l0, if_pos (by omega), if_pos (by omega), if_pos (by omega), rdI hi, impl_GoodBus_1.f, within_eq, Option.bind_some, Option.bind_some, List.drop_eq_getElem_cons hi, List.all_cons, stepNat hi hl]
    change ∃ r, (if (!isBy l[i]) = true then _ else _) = some r ∧ _
    cases isBy l[i] with
    | true =>
      rw [if_neg (by simp), Bool.true_and]
      exact iBy_loop l hl m (i + 1) k (by omega) (by omega)
    | false => exact ⟨(i : Int), rfl, by simp⟩
theorem iBy_eq {l : List Int} {k : Nat} (h : Fits k l.length) : slices_ContainsFunc_97_g98.f k l = some (!l.all isBy) := by
  unfold slices_ContainsFunc_97_g98.f slices_IndexFunc_127_g98.f
  obtain ⟨r, h1, h2⟩ := iBy_loop l h.1 l.length 0 k (by omega) h.2
  rw [show ((0 : Nat) : Int) = 0 from rfl] at h1
  rw [h1, Option.bind_some, h2]
  rfl
theorem iAc_loop (l : List S115) (hl : l.length ≤ 1048576) : ∀ (m i k : Nat), i + m = l.length → m < k →
    ∃ r, slices_IndexFunc_128_g100.l0 k l (l.length : Int) (i : Int) = some r ∧ decide (r ≥ 0) = !(l.drop i).all goodAcc
  | 0, i, k, h, hk => by
    obtain ⟨k, rfl⟩ : ∃ n, k = n + 1 := ⟨k - 1, by omega⟩
    refine ⟨-1, ?_, ?_⟩
    · rw [slices_IndexFunc_128_g100.l0, if_neg (by omega)]
    · rw [List.drop_of_length_le (by omega)]
      rfl
  | m + 1, i, k, h, hk => by
    obtain ⟨k, rfl⟩ : ∃ n, k = n + 1 := ⟨k - 1, by omega⟩
    have hi : i < l.length := by omega
    rw [slices_IndexFunc_128_g100.l0, if_pos (by omega), if_pos (by omega), if_pos (by omega), rdA hi, impl_GoodBus_2.f, iAcc_eq, Option.bind_some, Option.bind_some, List.drop_eq_getElem_cons hi, List.all_cons, stepNat hi hl]
    change ∃ r, (if (!goodAcc l[i]) = true then _ else _) = some r ∧ _
    cases goodAcc l[i] with
    | true =>
      rw [if_neg (by simp), Bool.true_and]
      exact iAc_loop l hl m (i + 1) k (by omega) (by omega)
    | false => exact ⟨(i : Int), rfl, by simp⟩
theorem iAc_eq {l : List S115} {k : Nat} (h : Fits k l.length) : slices_ContainsFunc_99_g100.f k l = some (!l.all goodAcc) := by
  unfold slices_ContainsFunc_99_g100.f slices_IndexFunc_128_g100.f
  obtain ⟨r, h1, h2⟩ := iAc_loop l h.1 l.length 0 k (by omega) h.2
  rw [show ((0 : Nat) : Int) = 0 from rfl] at h1
  rw [h1, Option.bind_some, h2]
  rfl
theorem iBus_eq {l8 : List Int} {l9 : List S115} {k : Nat} (h8 : Fits k l8.length) (h9 : Fits k l9.length) : impl_GoodBus.f k l8 l9 = some (goodBus l8 l9) := by
  unfold impl_GoodBus.f goodBus
  rw [iBy_eq h8, iAc_eq h9]
  simp only [Option.bind_some]
  by_cases h1 : (l8.length : Int) = 512 <;> by_cases h2 : (l9.length : Int) ≤ 400 <;> cases l8.all isBy <;> cases l9.all goodAcc <;> simp [h1, h2]
theorem lFour_loop (x0 l : List Int) (hl : l.length ≤ 1048576) : ∀ (m i k : Nat), i + m = l.length → m < k →
    spec_l6Four.l0 k x0 l (l.length : Int) (i : Int) = some ((l.drop i).all isW && ((x0.length : Int) == 4))
  | 0, i, k, h, hk => by
    obtain ⟨k, rfl⟩ : ∃ n, k = n + 1 := ⟨k - 1, by omega⟩
    rw [spec_l6Four.l0, if_neg (by omega), List.drop_of_length_le (by omega)]
    rfl
  | m + 1, i, k, h, hk => by
    obtain ⟨k, rfl⟩ : ∃ n, k = n + 1 := ⟨k - 1, by omega⟩
    have hi : i < l.length := by omega
    rw [spec_l6Four.l0, if_pos (by omega), if_pos (by omega), if_pos (by omega), rdI hi, l6Word_eq, Option.bind_some, List.drop_eq_getElem_cons hi, List.all_cons, stepNat hi hl]
    change (if isW l[i] = true then _ else _) = _
    cases isW l[i] with
    | true =>
      rw [if_pos rfl, Bool.true_and]
      exact lFour_loop x0 l hl m (i + 1) k (by omega) (by omega)
    | false => rfl
theorem lFour_eq {l : List Int} {k : Nat} (h : Fits k l.length) : spec_l6Four.f k l = some (l.all isW && ((l.length : Int) == 4)) := by
  unfold spec_l6Four.f
  have := lFour_loop l l h.1 l.length 0 k (by omega) h.2
  simpa using this
theorem iW_loop (l : List Int) (hl : l.length ≤ 1048576) : ∀ (m i k : Nat), i + m = l.length → m < k →
    ∃ r, slices_IndexFunc_127_g126.l0 k l (l.length : Int) (i : Int) = some r ∧ decide (r ≥ 0) = !(l.drop i).all isW
  | 0, i, k, h, hk => by
    obtain ⟨k, rfl⟩ : ∃ n, k = n + 1 := ⟨k - 1, by omega⟩
    refine ⟨-1, ?_, ?_⟩
    · rw [slices_IndexFunc_127_g126.l0, if_neg (by omega)]
    · rw [List.drop_of_length_le (by omega)]
      rfl
  | m + 1, i, k, h, hk => by
    obtain ⟨k, rfl⟩ : ∃ n, k = n + 1 := ⟨k - 1, by omega⟩
    have hi : i < l.length := by omega
    rw [slices_IndexFunc_127_g126.l0, if_pos (by omega), if_pos (by omega), if_pos (by omega), rdI hi, impl_areWords_1.f, isWord_eq, Option.bind_some, Option.bind_some, List.drop_eq_getElem_cons hi, List.all_cons, stepNat hi hl]
    change ∃ r, (if (!isW l[i]) = true then _ else _) = some r ∧ _
    cases isW l[i] with
    | true =>
      rw [if_neg (by simp), Bool.true_and]
      exact iW_loop l hl m (i + 1) k (by omega) (by omega)
    | false => exact ⟨(i : Int), rfl, by simp⟩
theorem iW_eq {l : List Int} {k : Nat} (h : Fits k l.length) : slices_ContainsFunc_97_g126.f k l = some (!l.all isW) := by
  unfold slices_ContainsFunc_97_g126.f slices_IndexFunc_127_g126.f
  obtain ⟨r, h1, h2⟩ := iW_loop l h.1 l.length 0 k (by omega) h.2
  rw [show ((0 : Nat) : Int) = 0 from rfl] at h1
  rw [h1, Option.bind_some, h2]
  rfl
theorem iFour_eq {l : List Int} {k : Nat} (h : Fits k l.length) : impl_areWords.f k l = some (l.all isW && ((l.length : Int) == 4)) := by
  unfold impl_areWords.f
  by_cases hc : (l.length : Int) = 4
  · rw [if_pos hc, iW_eq h, Option.bind_some]
    simp [hc]
  · rw [if_neg hc]
    simp [hc]
theorem lFlags1_eq (a : Int) : spec_l1Flags.f a = some (decide (0 ≤ a ∧ a ≤ 31)) := by
  unfold spec_l1Flags.f
  rw [l1In_eq]
  rfl
theorem iFlags1_eq (a : Int) : impl_areFlags.f a = some (decide (0 ≤ a ∧ a ≤ 31)) := by
  unfold impl_areFlags.f
  rw [within_eq]
  rfl
def goodRegs (l0 l1 : List Int) (a2 a3 a4 a5 : Int) : Bool := (l0.all isW && ((l0.length : Int) == 4)) && ((l1.all isW && ((l1.length : Int) == 4)) && (isW a2 && (isW a3 && (decide (0 ≤ a4 ∧ a4 ≤ 31) && decide (0 ≤ a5 ∧ a5 ≤ 7)))))
theorem lRegs_eq {l0 l1 : List Int} {k : Nat} (h0 : Fits k l0.length) (h1 : Fits k l1.length) (a2 a3 a4 a5 : Int) (a6 a7 : Bool) : spec_GoodRegs.f k l0 l1 a2 a3 a4 a5 a6 a7 = some (goodRegs l0 l1 a2 a3 a4 a5) := by
  unfold spec_GoodRegs.f goodRegs isW
  rw [lFour_eq h0, lFour_eq h1]
  simp only [l6Word_eq, lFlags1_eq, l1In_eq, Option.bind_some]
  unfold isW
  cases (l0.all (fun x => decide (0 ≤ x ∧ x ≤ 65535)) && ((l0.length : Int) == 4)) <;> cases (l1.all (fun x => decide (0 ≤ x ∧ x ≤ 65535)) && ((l1.length : Int) == 4)) <;> cases decide (0 ≤ a2 ∧ a2 ≤ 65535) <;> cases decide (0 ≤ a3 ∧ a3 ≤ 65535) <;> cases decide (0 ≤ a4 ∧ a4 ≤ 31) <;> rfl
theorem iRegs_eq {l0 l1 : List Int} {k : Nat} (h0 : Fits k l0.length) (h1 : Fits k l1.length) (a2 a3 a4 a5 : Int) (a6 a7 : Bool) : impl_GoodRegs.f k l0 l1 a2 a3 a4 a5 a6 a7 = some (goodRegs l0 l1 a2 a3 a4 a5) := by
  unfold impl_GoodRegs.f goodRegs isW
  rw [iFour_eq h0, iFour_eq h1]
  simp only [isWord_eq, iFlags1_eq, within_eq, Option.bind_some]
  unfold isW
  cases (l0.all (fun x => decide (0 ≤ x ∧ x ≤ 65535)) && ((l0.length : Int) == 4)) <;> cases (l1.all (fun x => decide (0 ≤ x ∧ x ≤ 65535)) && ((l1.length : Int) == 4)) <;> cases decide (0 ≤ a2 ∧ a2 ≤ 65535) <;> cases decide (0 ≤ a3 ∧ a3 ≤ 65535) <;> cases decide (0 ≤ a4 ∧ a4 ≤ 31) <;> rfl
def goodCpu (l0 l1 : List Int) (a2 a3 a4 a5 : Int) (l8 : List Int) (l9 : List S115) (a10 a11 : Bool) : Bool := goodRegs l0 l1 a2 a3 a4 a5 && (goodBus l8 l9 && !(a10 && a11))
theorem lCpu_eq {k : Nat} {l0 l1 l8 : List Int} {l9 : List S115} (h0 : Fits k l0.length) (h1 : Fits k l1.length) (h : l8.length ≤ 1048576 ∧ l9.length ≤ 1048576 ∧ l8.length + l9.length + 2 < k) (a2 a3 a4 a5 : Int) (a6 a7 a10 a11 : Bool) :
    spec_GoodCpu.f k l0 l1 a2 a3 a4 a5 a6 a7 l8 l9 a10 a11 = some (goodCpu l0 l1 a2 a3 a4 a5 l8 l9 a10 a11) := by
  unfold spec_GoodCpu.f goodCpu
  rw [lRegs_eq h0 h1, lBus_eq h, Option.bind_some, Option.bind_some]
  cases goodRegs l0 l1 a2 a3 a4 a5 <;> cases goodBus l8 l9 <;> cases a10 <;> cases a11 <;> rfl
theorem iCpu_eq {k : Nat} {l0 l1 l8 : List Int} {l9 : List S115} (h0 : Fits k l0.length) (h1 : Fits k l1.length) (h8 : Fits k l8.length) (h9 : Fits k l9.length) (a2 a3 a4 a5 : Int) (a6 a7 a10 a11 : Bool) :
    impl_GoodCpu.f k l0 l1 a2 a3 a4 a5 a6 a7 l8 l9 a10 a11 = some (goodCpu l0 l1 a2 a3 a4 a5 l8 l9 a10 a11) := by
  unfold impl_GoodCpu.f goodCpu
  rw [iRegs_eq h0 h1, iBus_eq h8 h9, Option.bind_some, Option.bind_some]
  cases goodRegs l0 l1 a2 a3 a4 a5 <;> cases goodBus l8 l9 <;> cases a10 <;> cases a11 <;> rfl
theorem lLong_eq (v : Int) : spec_l11Long.f v = some (decide (v = 2 ∨ v = 3)) := by
  unfold spec_l11Long.f
  by_cases h : v = 2
  · simp [h]
  · by_cases h2 : v = 3 <;> simp [h, h2]
theorem isLong_eq (v p a o : Int) (wr : Bool) : impl_isLong.f v p a o wr = some (decide (v = 2 ∨ v = 3)) := by
  unfold impl_isLong.f
  by_cases h : v = 2
  · simp [h]
  · by_cases h2 : v = 3 <;> simp [h, h2]
/-- Whether a fault is good. -/
def goodFault (v p a o : Int) (wr : Bool) : Bool :=
  decide ((2 ≤ v ∧ v ≤ 21) ∧ (0 ≤ p ∧ p ≤ 65535) ∧ (0 ≤ a ∧ a ≤ 65535) ∧ (0 ≤ o ∧ o ≤ 65535) ∧ ((v = 2 ∨ v = 3) ∨ (a = 0 ∧ wr = false)))
theorem lGoodFault_eq (v p a o : Int) (wr : Bool) : spec_GoodFault.f v p a o wr = some (goodFault v p a o wr) := by
  unfold spec_GoodFault.f goodFault
  simp only [l1In_eq, l6Word_eq, lLong_eq, Option.bind_some, decide_eq_true_eq]
  by_cases h1 : 2 ≤ v ∧ v ≤ 21 <;> by_cases h2 : 0 ≤ p ∧ p ≤ 65535 <;> by_cases h3 : 0 ≤ a ∧ a ≤ 65535 <;> by_cases h4 : 0 ≤ o ∧ o ≤ 65535 <;> by_cases h5 : v = 2 ∨ v = 3 <;> by_cases h6 : a = 0 <;> cases wr <;> simp [h1, h2, h3, h4, h5, h6]
theorem iGoodFault_eq (v p a o : Int) (wr : Bool) : impl_GoodFault.f v p a o wr = some (goodFault v p a o wr) := by
  unfold impl_GoodFault.f goodFault
  simp only [within_eq, isWord_eq, isLong_eq, Option.bind_some, decide_eq_true_eq]
  by_cases h1 : 2 ≤ v ∧ v ≤ 21 <;> by_cases h2 : 0 ≤ p ∧ p ≤ 65535 <;> by_cases h3 : 0 ≤ a ∧ a ≤ 65535 <;> by_cases h4 : 0 ≤ o ∧ o ≤ 65535 <;> by_cases h5 : v = 2 ∨ v = 3 <;> by_cases h6 : a = 0 <;> cases wr <;> simp [h1, h2, h3, h4, h5, h6]
/-- The numbers a, a + 1, .. -/
def upto (a : Int) : Nat → List Int
  | 0 => []
  | n + 1 => a :: upto (a + 1) n
theorem upto_length (a : Int) (n : Nat) : (upto a n).length = n := by
  induction n generalizing a with
  | zero => rfl
  | succ n ih => simp [upto, ih]
theorem rd_at (l : List Int) (i : Nat) (h : i < l.length) : rd l (i : Int) = l[i] := by
  simp [rd, List.getElem?_eq_getElem h]
theorem eqIntS_l0 (l : List Int) (hl : l.length ≤ 4611686018427387904) : ∀ (d k i : Nat), i + d = l.length → d < k → laws_eqIntS.l0 k l l (i : Int) = some true := by
  intro d
  induction d with
  | zero =>
    intro k i hi hk
    obtain ⟨k, rfl⟩ : ∃ m, k = m + 1 := ⟨k - 1, by omega⟩
    simp only [laws_eqIntS.l0]
    rw [if_neg (by omega)]
  | succ d ih =>
    intro k i hi hk
    obtain ⟨k, rfl⟩ : ∃ m, k = m + 1 := ⟨k - 1, by omega⟩
    simp only [laws_eqIntS.l0]
    rw [if_pos (by omega), if_pos (by omega), if_pos (by omega), if_pos trivial, wrap64_id (by omega) (by omega), show ((i : Int) + 1) = ((i + 1 : Nat) : Int) by omega]
    exact ih k (i + 1) (by omega) (by omega)
theorem eqIntS_self (l : List Int) (hl : l.length ≤ 4611686018427387904) (k : Nat) (hk : l.length < k) : laws_eqIntS.f k l l = some true := by
  unfold laws_eqIntS.f
  rw [if_pos rfl]
  exact eqIntS_l0 l hl l.length k 0 (by omega) hk
theorem markIntS_l0 (n : Nat) (hn : n ≤ 4611686018427387904) : ∀ (d k i : Nat) (a : Int) (x : List Int), x.length = n → i + d = n → d < k → 0 ≤ a → a ≤ 4611686018427387904 - (d : Int) →
    laws_markIntS.l0 k x a (i : Int) = some (a + (d : Int), x.take i ++ upto a d) := by
  intro d
  induction d with
  | zero =>
    intro k i a x hx hi hk _ _
    obtain ⟨k, rfl⟩ : ∃ m, k = m + 1 := ⟨k - 1, by omega⟩
    simp only [laws_markIntS.l0]
    rw [if_neg (by omega)]
    simp [upto, List.take_of_length_le (show x.length ≤ i by omega)]
  | succ d ih =>
    intro k i a x hx hi hk ha hb
    obtain ⟨k, rfl⟩ : ∃ m, k = m + 1 := ⟨k - 1, by omega⟩
    simp only [laws_markIntS.l0]
    rw [if_pos (by omega), if_pos (by omega), wrap64_id (n := a + 1) (by omega) (by omega), wrap64_id (by omega) (by omega)]
    have hset : (x.set i a).take (i + 1) = x.take i ++ [a] := by
      rw [List.take_succ_eq_append_getElem (by simp; omega), List.take_set, List.set_eq_of_length_le (by simp; omega)]
      simp
    have := ih k (i + 1) (a + 1) (x.set i a) (by simp [hx]) (by omega) (by omega) (by omega) (by omega)
    rw [hset] at this
    simp only [Int.toNat_natCast]
    rw [show ((i : Int) + 1) = ((i + 1 : Nat) : Int) by omega, this]
    simp [upto]
    omega
theorem markIntS_eq (x : List Int) (a : Int) (k : Nat) (hk : x.length < k) (ha : 0 ≤ a) (hb : a + (x.length : Int) ≤ 4611686018427387904) :
    laws_markIntS.f k x a = some (a + (x.length : Int), upto a x.length) := by
  unfold laws_markIntS.f
  have := markIntS_l0 x.length (by omega) x.length k 0 a x rfl (by omega) hk ha (by omega)
  simpa using this
theorem heldIntS_l0 (x : List Int) (hx : x.length ≤ 4611686018427387904) : ∀ (d k i : Nat) (a : Int), x.drop i = upto a d → i + d = x.length → d < k → 0 ≤ a → a ≤ 4611686018427387904 - (d : Int) →
    laws_heldIntS.l0 k x a (i : Int) = some (a + (d : Int)) := by
  intro d
  induction d with
  | zero =>
    intro k i a hd hi hk _ _
    obtain ⟨k, rfl⟩ : ∃ m, k = m + 1 := ⟨k - 1, by omega⟩
    simp only [laws_heldIntS.l0]
    rw [if_neg (by omega)]
    simp
  | succ d ih =>
    intro k i a hd hi hk ha hb
    obtain ⟨k, rfl⟩ : ∃ m, k = m + 1 := ⟨k - 1, by omega⟩
    have hlt : i < x.length := by omega
    rw [List.drop_eq_getElem_cons hlt] at hd
    simp only [upto, List.cons.injEq] at hd
    simp only [laws_heldIntS.l0]
    rw [if_pos (by omega), if_pos (by omega), wrap64_id (n := a + 1) (by omega) (by omega), wrap64_id (by omega) (by omega), rd_at x i hlt, if_pos hd.1]
    have := ih k (i + 1) (a + 1) hd.2 (by omega) (by omega) (by omega) (by omega)
    rw [show ((i : Int) + 1) = ((i + 1 : Nat) : Int) by omega, this]
    congr 1
    omega
theorem heldIntS_upto (n : Nat) (a : Int) (k : Nat) (hk : n < k) (ha : 0 ≤ a) (hb : a + (n : Int) ≤ 4611686018427387904) :
    laws_heldIntS.f k (upto a n) a = some (a + (n : Int)) := by
  unfold laws_heldIntS.f
  exact heldIntS_l0 (upto a n) (by rw [upto_length]; omega) n k 0 a rfl (by rw [upto_length]; omega) hk ha (by omega)
def uptoA (a : Int) : Nat → List S115
  | 0 => []
  | n + 1 => ⟨a, a + 1, a + 1 + 1, a + 1 + 1 + 1, a + 1 + 1 + 1 + 1⟩ :: uptoA (a + 5) n
theorem uptoA_length (a : Int) (n : Nat) : (uptoA a n).length = n := by
  induction n generalizing a with
  | zero => rfl
  | succ n ih => simp [uptoA, ih]
theorem rdSetA {x : List S115} {i : Nat} (e : S115) (h : i < x.length) : rd_T115 (x.set i e) (i : Int) = e := by
  rw [rdA (by simpa using h)]
  simp
theorem w5 {a : Int} (h0 : 0 ≤ a) (h1 : a ≤ 4611686018427387904) : wrap64 (a + 1) = a + 1 := wrap64_id (by omega) (by omega)
theorem markA_l0 (n : Nat) (hn : n ≤ 1048576) : ∀ (d k i : Nat) (a : Int) (x : List S115), x.length = n → i + d = n → d < k → 0 ≤ a → a + 5 * (d : Int) ≤ 4611686018427387904 →
    laws_markAccessS.l0 k x a (i : Int) = some (a + 5 * (d : Int), x.take i ++ uptoA a d) := by
  intro d
  induction d with
  | zero =>
    intro k i a x hx hi hk _ _
    obtain ⟨k, rfl⟩ : ∃ m, k = m + 1 := ⟨k - 1, by omega⟩
    rw [laws_markAccessS.l0, if_neg (by omega)]
    simp [uptoA, List.take_of_length_le (show x.length ≤ i by omega)]
  | succ d ih =>
    intro k i a x hx hi hk ha hb
    obtain ⟨k, rfl⟩ : ∃ m, k = m + 1 := ⟨k - 1, by omega⟩
    have hlt : i < x.length := by omega
    rw [laws_markAccessS.l0, if_pos (by omega), if_pos (by omega)]
    simp only [Option.bind_some, Int.toNat_natCast, List.set_set, rdSetA _ hlt]
    rw [w5 ha (by omega), w5 (a := a + 1) (by omega) (by omega), w5 (a := a + 1 + 1) (by omega) (by omega), w5 (a := a + 1 + 1 + 1) (by omega) (by omega), w5 (a := a + 1 + 1 + 1 + 1) (by omega) (by omega), stepNat (n := n) (by omega) hn]
    have hset : ∀ e : S115, (x.set i e).take (i + 1) = x.take i ++ [e] := by
      intro e
      rw [List.take_succ_eq_append_getElem (by simp; omega), List.take_set, List.set_eq_of_length_le (by simp; omega)]
      simp
    have := ih k (i + 1) (a + 1 + 1 + 1 + 1 + 1) (x.set i ⟨a, a + 1, a + 1 + 1, a + 1 + 1 + 1, a + 1 + 1 + 1 + 1⟩) (by simp [hx]) (by omega) (by omega) (by omega) (by omega)
    rw [this, hset, show a + 1 + 1 + 1 + 1 + 1 = a + 5 from by omega]
    simp [uptoA]
    omega
theorem markA_eq (x : List S115) (hx : x.length ≤ 1048576) (a : Int) (k : Nat) (hk : x.length < k) (ha : 0 ≤ a) (hb : a + 5 * (x.length : Int) ≤ 4611686018427387904) :
    laws_markAccessS.f k x a = some (a + 5 * (x.length : Int), uptoA a x.length) := by
  unfold laws_markAccessS.f
  have := markA_l0 x.length hx x.length k 0 a x rfl (by omega) hk ha hb
  simpa using this
theorem heldA_l0 (x : List S115) (hx : x.length ≤ 1048576) : ∀ (d k i : Nat) (a : Int), x.drop i = uptoA a d → i + d = x.length → d < k → 0 ≤ a → a + 5 * (d : Int) ≤ 4611686018427387904 →
    laws_heldAccessS.l0 k x a (i : Int) = some (a + 5 * (d : Int)) := by
  intro d
  induction d with
  | zero =>
    intro k i a hd hi hk _ _
    obtain ⟨k, rfl⟩ : ∃ m, k = m + 1 := ⟨k - 1, by omega⟩
    rw [laws_heldAccessS.l0, if_neg (by omega)]
    simp
  | succ d ih =>
    intro k i a hd hi hk ha hb
    obtain ⟨k, rfl⟩ : ∃ m, k = m + 1 := ⟨k - 1, by omega⟩
    have hlt : i < x.length := by omega
    rw [List.drop_eq_getElem_cons hlt] at hd
    simp only [uptoA, List.cons.injEq] at hd
    rw [laws_heldAccessS.l0, if_pos (by omega), if_pos (by omega), rdA hlt, hd.1]
    simp only
    rw [w5 ha (by omega), w5 (a := a + 1) (by omega) (by omega), w5 (a := a + 1 + 1) (by omega) (by omega), w5 (a := a + 1 + 1 + 1) (by omega) (by omega), w5 (a := a + 1 + 1 + 1 + 1) (by omega) (by omega), stepNat hlt hx]
    simp only [if_true]
    rw [show a + 1 + 1 + 1 + 1 + 1 = a + 5 from by omega, ih k (i + 1) (a + 5) hd.2 (by omega) (by omega) (by omega) (by omega)]
    congr 1
    omega
theorem heldA_eq (n : Nat) (hn : n ≤ 1048576) (a : Int) (k : Nat) (hk : n < k) (ha : 0 ≤ a) (hb : a + 5 * (n : Int) ≤ 4611686018427387904) :
    laws_heldAccessS.f k (uptoA a n) a = some (a + 5 * (n : Int)) := by
  unfold laws_heldAccessS.f
  exact heldA_l0 (uptoA a n) (by rw [uptoA_length]; omega) n k 0 a rfl (by rw [uptoA_length]; omega) hk ha hb
theorem markCpu_eq {k : Nat} {l0 l1 l8 : List Int} {l9 : List S115} (h0 : Fits k l0.length) (h1 : Fits k l1.length) (h8 : Fits k l8.length) (h9 : Fits k l9.length) (a2 a3 a4 a5 : Int) (a6 a7 a10 a11 : Bool) :
    laws_markCpu.f k l0 l1 a2 a3 a4 a5 a6 a7 l8 l9 a10 a11 1 = some (1 + (l0.length : Int) + (l1.length : Int) + (l8.length : Int) + 5 * (l9.length : Int), upto 1 l0.length, upto (1 + (l0.length : Int)) l1.length, upto (1 + (l0.length : Int) + (l1.length : Int)) l8.length, uptoA (1 + (l0.length : Int) + (l1.length : Int) + (l8.length : Int)) l9.length) := by
  have b0 := h0.1
  have b1 := h1.1
  have b8 := h8.1
  have b9 := h9.1
  unfold laws_markCpu.f laws_markRegs.f laws_markBus.f
  rw [markIntS_eq l0 1 k h0.2 (by omega) (by omega), Option.bind_some]
  simp only
  rw [markIntS_eq l1 _ k h1.2 (by omega) (by omega), Option.bind_some]
  simp only [Option.bind_some]
  rw [markIntS_eq l8 _ k h8.2 (by omega) (by omega), Option.bind_some]
  simp only
  rw [markA_eq l9 h9.1 _ k h9.2 (by omega) (by omega), Option.bind_some]
  simp only [Option.bind_some]
theorem heldCpu_eq {k n0 n1 n8 n9 : Nat} (h0 : Fits k n0) (h1 : Fits k n1) (h8 : Fits k n8) (h9 : Fits k n9) (a2 a3 a4 a5 : Int) (a6 a7 a10 a11 : Bool) :
    laws_heldCpu.f k (upto 1 n0) (upto (1 + (n0 : Int)) n1) a2 a3 a4 a5 a6 a7 (upto (1 + (n0 : Int) + (n1 : Int)) n8) (uptoA (1 + (n0 : Int) + (n1 : Int) + (n8 : Int)) n9) a10 a11 1 = some (1 + (n0 : Int) + (n1 : Int) + (n8 : Int) + 5 * (n9 : Int)) := by
  have b0 := h0.1
  have b1 := h1.1
  have b8 := h8.1
  have b9 := h9.1
  unfold laws_heldCpu.f laws_heldRegs.f laws_heldBus.f
  rw [heldIntS_upto n0 1 k h0.2 (by omega) (by omega), Option.bind_some, if_neg (by omega), heldIntS_upto n1 _ k h1.2 (by omega) (by omega), Option.bind_some, if_neg (by omega), Option.bind_some, if_neg (by omega), heldIntS_upto n8 _ k h8.2 (by omega) (by omega), Option.bind_some, if_neg (by omega), heldA_eq n9 h9.1 _ k h9.2 (by omega) (by omega), Option.bind_some, if_neg (by omega), Option.bind_some, if_neg (by omega)]
theorem lOwn_eq {l0 l1 l8 : List Int} {l9 : List S115} (h0 : l0.length ≤ 1048576) (h1 : l1.length ≤ 1048576) (h8 : l8.length ≤ 1048576) (h9 : l9.length ≤ 1048576) (a2 a3 a4 a5 : Int) (a6 a7 a10 a11 : Bool) :
    spec_l10Own.f l0 l1 a2 a3 a4 a5 a6 a7 l8 l9 a10 a11 = some (l0, l1, a2, a3, a4, a5, a6, a7, l8, l9, a10, a11) := by
  unfold spec_l10Own.f spec_l6Own.f spec_l4Own.f
  simp only [Option.bind_some, List.length_nil, List.nil_append]
  rw [if_pos (by omega), if_pos (by omega), if_pos (by omega), if_pos (by omega)]
  rfl
theorem iOwn_eq {l0 l1 l8 : List Int} {l9 : List S115} (h0 : l0.length ≤ 1048576) (h1 : l1.length ≤ 1048576) (h8 : l8.length ≤ 1048576) (h9 : l9.length ≤ 1048576) (a2 a3 a4 a5 : Int) (a6 a7 a10 a11 : Bool) :
    impl_ownCpu.f l0 l1 a2 a3 a4 a5 a6 a7 l8 l9 a10 a11 = some (l0, l1, a2, a3, a4, a5, a6, a7, l8, l9, a10, a11) := by
  unfold impl_ownCpu.f impl_ownRegs.f impl_ownBus.f slices_Clone_int_int.f impl_Access_103.f
  simp only [Option.bind_some, List.length_nil, List.nil_append]
  rw [if_pos (by omega), if_pos (by omega), if_pos (by omega), if_pos (by omega)]
  rfl
/-- What an address is, and what an access is told. -/
def kindA (a : Int) : Int := if (448 ≤ a ∧ a ≤ 495) ∨ 512 ≤ a then 1 else if 384 ≤ a ∧ a ≤ 447 then 3 else 0
def codeA (kind size a : Int) : Int := if size = 2 ∧ a % 2 = 1 then 2 else if kindA a = 1 ∨ kindA (a + size - 1) = 1 then 1 else if kind = 2 ∧ (kindA a = 3 ∨ kindA (a + size - 1) = 3) then 3 else 0
theorem lKind_eq {k : Nat} (hk : 0 < k) (a : Int) : spec_l4Kind.f k a = some (kindA a) := by
  obtain ⟨k, rfl⟩ : ∃ n, k = n + 1 := ⟨k - 1, by omega⟩
  unfold spec_l4Kind.f kindA
  rw [l1In_eq]
  by_cases h1 : a ≥ 512
  · rw [if_pos h1, spec_l4Kind.j0, if_pos (decide_eq_true h1), if_pos (Or.inr h1)]
  rw [if_neg h1, Option.bind_some, spec_l4Kind.j0]
  by_cases h2 : 448 ≤ a ∧ a ≤ 495
  · rw [if_pos (decide_eq_true h2), if_pos (Or.inl h2)]
  rw [if_neg (by simpa using h2), if_neg (by rintro (h | h) <;> omega), l1In_eq, Option.bind_some]
  by_cases h3 : 384 ≤ a ∧ a ≤ 447
  · rw [if_pos (decide_eq_true h3), if_pos h3]
  · rw [if_neg (by simpa using h3), if_neg h3]
theorem iKindOf_eq {k : Nat} (hk : 0 < k) (a : Int) : impl_kindOf.f k a = some (kindA a) := by
  obtain ⟨k, rfl⟩ : ∃ n, k = n + 1 := ⟨k - 1, by omega⟩
  unfold impl_kindOf.f kindA
  rw [within_eq, Option.bind_some]
  by_cases h2 : 448 ≤ a ∧ a ≤ 495
  · rw [if_pos (decide_eq_true h2), impl_kindOf.j0, if_pos rfl, if_pos (Or.inl h2)]
  rw [if_neg (by simpa using h2), impl_kindOf.j0]
  by_cases h1 : a ≥ 512
  · rw [if_pos (decide_eq_true h1), if_pos (Or.inr h1)]
  rw [if_neg (by simpa using h1), if_neg (by rintro (h | h) <;> omega), within_eq, Option.bind_some]
  by_cases h3 : 384 ≤ a ∧ a ≤ 447
  · rw [if_pos (decide_eq_true h3), if_pos h3]
  · rw [if_neg (by simpa using h3), if_neg h3]
theorem kindA_cases (a : Int) : kindA a = 0 ∨ kindA a = 1 ∨ kindA a = 3 := by
  unfold kindA
  split
  · exact Or.inr (Or.inl rfl)
  · split
    · exact Or.inr (Or.inr rfl)
    · exact Or.inl rfl
theorem lastW {size a : Int} (hs : size = 1 ∨ size = 2) (ha : 0 ≤ a ∧ a ≤ 65535) : wrap64 (wrap64 (a + size) - 1) = a + size - 1 := by
  rw [wrap64_id (n := a + size) (by omega) (by omega), wrap64_id (by omega) (by omega)]
theorem lCode_eq {k : Nat} (hk : 3 ≤ k) (kind : Int) {size a : Int} (hs : size = 1 ∨ size = 2) (ha : 0 ≤ a ∧ a ≤ 65535) : spec_l4Code.f k kind size a = some (codeA kind size a) := by
  obtain ⟨k, rfl⟩ : ∃ n, k = n + 2 := ⟨k - 2, by omega⟩
  have h0 : ∀ b : Bool, spec_l4Code.j0 (k + 2) kind a (a + size - 1) b = some (if b = true then 2 else if kindA a = 1 ∨ kindA (a + size - 1) = 1 then 1 else if kind = 2 ∧ (kindA a = 3 ∨ kindA (a + size - 1) = 3) then 3 else 0) := by
    intro b
    rw [spec_l4Code.j0]
    cases b with
    | true => rfl
    | false =>
      simp only [Bool.false_eq_true, if_false]
      rw [lKind_eq (by omega), Option.bind_some, lKind_eq (by omega)]
      by_cases h1 : kindA a = 1
      · rw [if_pos h1, spec_l4Code.j1, if_pos rfl, if_pos (Or.inl h1)]
      rw [if_neg h1, Option.bind_some, spec_l4Code.j1]
      by_cases h2 : kindA (a + size - 1) = 1
      · rw [if_pos (show (kindA (a + size - 1) == 1) = true from by simp [h2]), if_pos (Or.inr h2)]
      rw [if_neg (show ¬ ((kindA (a + size - 1) == 1) = true) from by simp [h2]), if_neg (show ¬ (kindA a = 1 ∨ kindA (a + size - 1) = 1) from fun h => h.elim h1 h2)]
      by_cases h3 : kind = 2
      · rw [if_pos h3, lKind_eq (by omega), Option.bind_some, lKind_eq (by omega)]
        by_cases h4 : kindA a = 3
        · rw [if_pos h4, if_pos ⟨h3, Or.inl h4⟩]
        rw [if_neg h4, Option.bind_some]
        by_cases h5 : kindA (a + size - 1) = 3
        · rw [if_pos h5, if_pos ⟨h3, Or.inr h5⟩]
        · rw [if_neg h5, if_neg (show ¬ (kind = 2 ∧ (kindA a = 3 ∨ kindA (a + size - 1) = 3)) from fun h => h.2.elim h4 h5)]
      · rw [if_neg h3, if_neg (fun h => h3 h.1)]
  unfold spec_l4Code.f codeA
  rw [lastW hs ha, h0, h0, and_1]
  rcases hs with rfl | rfl
  · simp
  · by_cases h : a % 2 = 1 <;> simp [h]
theorem iCode_eq {k : Nat} (hk : 3 ≤ k) (kind : Int) {size a : Int} (hs : size = 1 ∨ size = 2) (ha : 0 ≤ a ∧ a ≤ 65535) : impl_codeOf.f k kind size a = some (codeA kind size a) := by
  obtain ⟨k, rfl⟩ : ∃ n, k = n + 2 := ⟨k - 2, by omega⟩
  have h0 : ∀ b : Bool, impl_codeOf.j0 (k + 2) kind size a b = some (if b = true then 2 else if kindA a = 1 ∨ kindA (a + size - 1) = 1 then 1 else if kind = 2 ∧ (kindA a = 3 ∨ kindA (a + size - 1) = 3) then 3 else 0) := by
    intro b
    rw [impl_codeOf.j0]
    cases b with
    | true => rfl
    | false =>
      simp only [Bool.false_eq_true, if_false]
      rw [iKindOf_eq (by omega), Option.bind_some, lastW hs ha, iKindOf_eq (by omega), Option.bind_some]
      have hj : ∀ c : Bool, impl_codeOf.j1 (k + 1) kind (kindA a) (kindA (a + size - 1)) c = some (if c = true then 1 else if kind = 2 ∧ (kindA a = 3 ∨ kindA (a + size - 1) = 3) then 3 else 0) := by
        intro c
        rw [impl_codeOf.j1]
        cases c with
        | true => rfl
        | false =>
          simp only [Bool.false_eq_true, if_false]
          by_cases h3 : kind = 2
          · rw [if_pos h3]
            by_cases h4 : kindA a = 3
            · rw [if_pos h4, if_pos ⟨h3, Or.inl h4⟩]
            rw [if_neg h4]
            by_cases h5 : kindA (a + size - 1) = 3
            · rw [if_pos h5, if_pos ⟨h3, Or.inr h5⟩]
            · rw [if_neg h5, if_neg (show ¬ (kind = 2 ∧ (kindA a = 3 ∨ kindA (a + size - 1) = 3)) from fun h => h.2.elim h4 h5)]
          · rw [if_neg h3, if_neg (fun h => h3 h.1)]
      by_cases h1 : kindA a = 1
      · rw [if_pos h1, hj, if_pos rfl, if_pos (Or.inl h1)]
      rw [if_neg h1, hj]
      by_cases h2 : kindA (a + size - 1) = 1
      · rw [if_pos (show (kindA (a + size - 1) == 1) = true from by simp [h2]), if_pos (Or.inr h2)]
      · rw [if_neg (show ¬ ((kindA (a + size - 1) == 1) = true) from by simp [h2]), if_neg (show ¬ (kindA a = 1 ∨ kindA (a + size - 1) = 1) from fun h => h.elim h1 h2)]
  unfold impl_codeOf.f codeA
  rw [h0, h0]
  have ht : Int.tmod a 2 = a % 2 := Int.tmod_eq_emod_of_nonneg ha.1
  rw [ht]
  rcases hs with rfl | rfl
  · simp
  · by_cases h : a % 2 = 1 <;> simp [h]
theorem codeA_ok {kind size a : Int} (hs : size = 1 ∨ size = 2) (h : codeA kind size a = 0) (ha : 0 ≤ a) : a < 512 ∧ a + size - 1 < 512 := by
  unfold codeA at h
  split at h
  · exact absurd h (by decide)
  split at h
  · exact absurd h (by decide)
  · rename_i h1 h2
    have h3 : ¬ kindA a = 1 := fun e => h2 (Or.inl e)
    have h4 : ¬ kindA (a + size - 1) = 1 := fun e => h2 (Or.inr e)
    unfold kindA at h3 h4
    split at h3
    · exact absurd rfl h3
    split at h4
    · exact absurd rfl h4
    omega
theorem goodCpu_sizes {l0 l1 l8 : List Int} {l9 : List S115} {a2 a3 a4 a5 : Int} {a10 a11 : Bool} (h : goodCpu l0 l1 a2 a3 a4 a5 l8 l9 a10 a11 = true) : l1.length = 4 ∧ l8.length = 512 ∧ l9.length ≤ 400 := by
  unfold goodCpu goodRegs goodBus at h
  simp only [Bool.and_eq_true, beq_iff_eq, decide_eq_true_eq] at h
  exact ⟨by omega, by omega, by omega⟩
theorem goodCpu_facts {l0 l1 l8 : List Int} {l9 : List S115} {a2 a3 a4 a5 : Int} {a10 a11 : Bool} (h : goodCpu l0 l1 a2 a3 a4 a5 l8 l9 a10 a11 = true) : (0 ≤ rd l1 3 ∧ rd l1 3 ≤ 65535) ∧ ∀ i : Int, 0 ≤ i → i < (l8.length : Int) → 0 ≤ rd l8 i ∧ rd l8 i ≤ 255 := by
  have hz := goodCpu_sizes h
  unfold goodCpu goodRegs goodBus at h
  simp only [Bool.and_eq_true] at h
  have h1 := List.all_eq_true.mp h.1.2.1.1
  have h8 := List.all_eq_true.mp h.2.1.2.2.1
  refine ⟨?_, fun i hi0 hi1 => ?_⟩
  · have hl : (3 : Nat) < l1.length := by omega
    have e : rd l1 3 = l1[3] := rdI hl
    rw [e]
    have := h1 _ (List.getElem_mem hl)
    simpa [isW] using this
  · obtain ⟨n, rfl⟩ : ∃ n : Nat, i = (n : Int) := ⟨i.toNat, by omega⟩
    have hl : n < l8.length := by omega
    rw [rdI hl]
    have := h8 _ (List.getElem_mem hl)
    simpa [isBy] using this
theorem or_zero {x : Int} (h : 0 ≤ x ∧ x ≤ 255) : bits .or .i64 0 x = x := by
  obtain ⟨n, rfl⟩ : ∃ n : Nat, x = (n : Int) := ⟨x.toNat, by omega⟩
  have := or_nat 0 n (by omega) (by omega)
  rw [show ((0 : Nat) : Int) = 0 from rfl] at this
  rw [this, Nat.zero_or]
theorem flagI_eq (c : Bool) (f : Int) : impl_flag.f c f = some (if c then f else 0) := by
  unfold impl_flag.f
  cases c <;> rfl
theorem flagL_eq (c : Bool) (f : Int) : spec_l1Flag.f c f = some (if c then f else 0) := by
  unfold spec_l1Flag.f
  cases c <;> rfl
/-- The status word. -/
def statB (i4 i5 : Int) (b6 b7 : Bool) : Int := wrap64 ((wrap64 ((wrap64 (i4 + (wrap64 (32 * i5)))) + (if b6 then 256 else 0))) + (if b7 then 512 else 0))
theorem stat_all : ∀ (f : Fin 32) (m : Fin 8) (b6 b7 : Bool), ienSt (statB (f.val : Int) (m.val : Int) b6 b7) = enSt (f.val : Int) (m.val : Int) ∧ 0 ≤ statB (f.val : Int) (m.val : Int) b6 b7 ∧ statB (f.val : Int) (m.val : Int) b6 b7 ≤ 65535 := by decide +kernel
theorem stat_eq {i4 i5 : Int} (h4 : 0 ≤ i4 ∧ i4 ≤ 31) (h5 : 0 ≤ i5 ∧ i5 ≤ 7) (b6 b7 : Bool) : ienSt (statB i4 i5 b6 b7) = enSt i4 i5 ∧ 0 ≤ statB i4 i5 b6 b7 ∧ statB i4 i5 b6 b7 ≤ 65535 := by
  have := stat_all ⟨i4.toNat, by omega⟩ ⟨i5.toNat, by omega⟩ b6 b7
  simpa [Int.toNat_of_nonneg h4.1, Int.toNat_of_nonneg h5.1] using this
theorem info_all : ∀ (b c : Bool), 0 ≤ bits .or .i64 (if b then 1 else 0) (if c then 2 else 0) ∧ bits .or .i64 (if b then 1 else 0) (if c then 2 else 0) ≤ 65535 := by decide +kernel
def bytesB (B : List Int) : Prop := ∀ i : Int, 0 ≤ i → i < (B.length : Int) → 0 ≤ rd B i ∧ rd B i ≤ 255
theorem bytes_set {B : List Int} (h : bytesB B) (n : Nat) {x : Int} (hx : 0 ≤ x ∧ x ≤ 255) : bytesB (B.set n x) := by
  intro i h0 h1
  rw [List.length_set] at h1
  have := h i h0 h1
  unfold rd at this ⊢
  rw [List.getD_eq_getElem?_getD, List.getElem?_set]
  by_cases hn : n = i.toNat
  · rw [if_pos hn]
    split
    · exact hx
    · exact ⟨by simp, by simp⟩
  · rw [if_neg hn, ← List.getD_eq_getElem?_getD]; exact this
theorem push_eq {k : Nat} (hk : 3 ≤ k) : ∀ (fr : List Int), (∀ v ∈ fr, 0 ≤ v ∧ v ≤ 65535) → ∀ (A B : List Int) (L : List S115) (f f' : Int), A.length = 4 → B.length = 512 → bytesB B → L.length ≤ 400 → (f = 0 ↔ f' = 0) →
    ∃ (A' B' : List Int) (L' : List S115) (g g' : Int), pushAll k fr (A, B, L, f) = some (A', B', L', g) ∧ ipushAll k fr (A, B, L, f') = some (A', B', L', g') ∧ (g = 0 ↔ g' = 0) ∧ A'.length = 4 ∧ B'.length = 512 ∧ bytesB B' ∧ L'.length ≤ 400
  | [], _, A, B, L, f, f', hA, hB, hy, hL, hf => ⟨A, B, L, f, f', rfl, rfl, hf, hA, hB, hy, hL⟩
  | v :: vs, hw, A, B, L, f, f', hA, hB, hy, hL, hf => by
    have hv := hw v (by simp)
    have hw' : ∀ v ∈ vs, 0 ≤ v ∧ v ≤ 65535 := fun x hx => hw x (by simp [hx])
    rw [pushAll, ipushAll]
    by_cases f0 : f = 0
    · have f1 : f' = 0 := hf.1 f0
      have hi : ipushAt A = pushAt A := rfl
      have ha : 0 ≤ pushAt A ∧ pushAt A ≤ 65535 := by unfold pushAt; rw [and_65535]; omega
      unfold pushStep ipushStep
      rw [if_pos f0, if_pos f1]
      dsimp only
      rw [hi]
      generalize pushAt A = a at ha ⊢
      rw [lCode_eq hk 2 (Or.inr rfl) ha, iCode_eq hk 2 (Or.inr rfl) ha, Option.bind_some, Option.bind_some]
      have hpre : 3 < A.length ∧ (0 ≤ a ∧ a ≤ 65535) ∧ (codeA 2 2 a = 0 → a + 1 < (B.length : Int)) := ⟨by omega, ha, fun hc => by have := codeA_ok (Or.inr rfl) hc ha.1; omega⟩
      rw [if_pos hpre, if_pos hpre, Option.bind_some, Option.bind_some]
      have hv1 : bits .and .i64 (v / 256) 255 = v / 256 := by rw [and_255]; omega
      have e1 : ichM 2 (codeA 2 2 a) v a B = tchM 2 (codeA 2 2 a) v a B := by unfold ichM tchM; rw [hv1]
      have e2 : ichL 2 (codeA 2 2 a) v a B L = tchL 2 (codeA 2 2 a) v a B L := by unfold ichL tchL ichT tchV; simp
      have e3 : (if codeA 2 2 a = 0 then A.set 3 a else A) = setA3 A (fltV (codeA 2 2 a) 0) a := by
        unfold setA3 fltV
        by_cases hc : codeA 2 2 a = 0
        · simp [hc]
        · rw [if_neg hc, if_neg hc, if_pos rfl, if_neg (by split <;> decide)]
      rw [e1, e2, e3]
      refine push_eq hk vs hw' _ _ _ _ _ ?_ ?_ ?_ ?_ ?_
      · unfold setA3; split <;> simp [hA]
      · unfold tchM; split <;> simp [hB]
      · unfold tchM
        split
        · rw [hv1]; exact bytes_set (bytes_set hy _ (by omega)) _ (by rw [and_255]; omega)
        · exact hy
      · unfold tchL
        split
        · simp only [List.length_append, List.length_cons, List.length_nil]; omega
        · exact hL
      · unfold fltV
        by_cases hc : codeA 2 2 a = 0
        · simp [hc]
        · rw [if_neg hc, if_pos rfl]; simp only [hc, iff_false]; split <;> decide
    · have f1 : ¬ f' = 0 := fun e => f0 (hf.2 e)
      unfold pushStep ipushStep
      rw [if_neg f0, if_neg f1, Option.bind_some, Option.bind_some]
      exact push_eq hk vs hw' A B L f f' hA hB hy hL hf
theorem cpu_eq {D A B : List Int} {L : List S115} (h0 : D.length ≤ 1048576) (h1 : A.length ≤ 1048576) (h8 : B.length ≤ 1048576) (h9 : L.length ≤ 1048576) (i2 i3 i4 i5 : Int) (b6 b7 b10 : Bool) : l10M_cpuAt.f D A i2 i3 i4 i5 b6 b7 B L b10 = some (D, A, i2, i3, i4, i5, b6, b7, B, L, b10, false) := by
  unfold l10M_cpuAt.f
  exact lOwn_eq h0 h1 h8 h9 i2 i3 i4 i5 b6 b7 b10 false
theorem enter_eq {k : Nat} (hk : 3 ≤ k) {D A B : List Int} {L : List S115} (h0 : D.length ≤ 1048576) (hA : A.length = 4) (hB : B.length = 512) (hy : bytesB B) (hL : L.length ≤ 400) (i2 i3 : Int) {i4 i5 : Int} (h4 : 0 ≤ i4 ∧ i4 ≤ 31) (h5 : 0 ≤ i5 ∧ i5 ≤ 7) (b6 b7 : Bool) (fr : List Int) (hw : ∀ v ∈ fr, 0 ≤ v ∧ v ≤ 65535) (hn : 0 < fr.length ∧ fr.length ≤ 5) {vec : Int} (hv : 2 ≤ vec ∧ vec ≤ 21) :
    ∃ (A' B' : List Int) (L' : List S115) (j2 j3 j4 j5 : Int) (c6 c7 c11 : Bool), (A'.length = 4 ∧ B'.length = 512 ∧ L'.length ≤ 400) ∧
      enterO k D A i2 i3 i4 i5 b6 b7 B L fr vec i5 = some (D, A', j2, j3, j4, j5, c6, c7, B', L', false, c11) ∧ ienterO k D A i2 i3 i4 i5 b6 b7 B L fr vec (statB i4 i5 b6 b7) false = some (D, A', j2, j3, j4, j5, c6, c7, B', L', false, c11) := by
  unfold enterO ienterO
  rw [(stat_eq h4 h5 b6 b7).1]
  have hg : 3 < A.length ∧ 0 < B.length ∧ 0 < fr.length ∧ fr.length ≤ 5 := ⟨by omega, by omega, hn.1, hn.2⟩
  rw [if_pos hg, if_pos hg]
  have hwA : iwithA (ienSv (enSt i4 i5)) b6 A i2 = withA (enSv (enSt i4 i5)) b6 A i2 := rfl
  have hwO : iwithO (ienSv (enSt i4 i5)) b6 A i2 = withO (enSv (enSt i4 i5)) b6 A i2 := rfl
  have hwl : (withA (enSv (enSt i4 i5)) b6 A i2).length = 4 := by unfold withA; split <;> simp [hA]
  rw [hwA, hwO]
  generalize withA (enSv (enSt i4 i5)) b6 A i2 = A1 at hwl ⊢
  generalize withO (enSv (enSt i4 i5)) b6 A i2 = o2
  obtain ⟨A', B', L', g, g', p1, p2, hgg, hA', hB', hy', hL'⟩ := push_eq hk fr hw A1 B L 0 0 hwl hB hy hL Iff.rfl
  rw [p1, p2, Option.bind_some, Option.bind_some]
  dsimp only
  by_cases g0 : g = 0
  · have hvv : vecAt vec = 2 * vec := wrap64_id (by omega) (by omega)
    have hvi : ivecAt vec = 2 * vec := wrap64_id (by omega) (by omega)
    rw [if_pos g0, if_pos (hgg.1 g0), hvv, hvi]
    have ha : 0 ≤ 2 * vec ∧ 2 * vec ≤ 65535 := by omega
    generalize 2 * vec = a at ha ⊢
    rw [lCode_eq hk 1 (Or.inr rfl) ha, iCode_eq hk 1 (Or.inr rfl) ha, Option.bind_some, Option.bind_some]
    have hpre : (0 ≤ a ∧ a ≤ 65535) ∧ (codeA 1 2 a = 0 → a + 1 < (B'.length : Int)) := ⟨ha, fun hc => by have := codeA_ok (Or.inr rfl) hc ha.1; omega⟩
    rw [if_pos hpre, if_pos hpre]
    have hT : codeA 1 2 a = 0 → tchV 1 0 0 a B' = ichV a B' := fun hc => by
      have hb := codeA_ok (Or.inr rfl) hc ha.1
      unfold tchV; rw [if_neg (by decide), if_pos rfl, or_zero (hy' a ha.1 (by omega))]
    have hl2 : tchL 1 (codeA 1 2 a) 0 a B' L' = ichL 1 (codeA 1 2 a) 0 a B' L' := by
      unfold tchL ichL ichT
      by_cases hc : codeA 1 2 a = 0
      · have ht := hT hc
        rw [hc]
        simp [ht]
      · simp [tchV, hc]
    have hl3 : (ichL 1 (codeA 1 2 a) 0 a B' L').length ≤ 400 := by
      unfold ichL
      split
      · simp only [List.length_append, List.length_cons, List.length_nil]; omega
      · exact hL'
    rw [hl2, cpu_eq h0 (by omega) (by omega) (by omega), Option.bind_some]
    dsimp only
    by_cases hc : codeA 1 2 a = 0
    · rw [if_pos hc, if_pos hc, if_pos hc, hT hc]
      have e : (codeA 1 2 a != 0) = false := by simp [hc]
      rw [e]
      exact ⟨A', B', _, _, _, _, _, _, _, false, ⟨hA', hB', hl3⟩, rfl, rfl⟩
    · rw [if_neg hc, if_neg hc, if_neg hc]
      have e : (codeA 1 2 a != 0) = true := by simpa using hc
      rw [e]
      exact ⟨A', B', _, _, _, _, _, _, _, true, ⟨hA', hB', hl3⟩, rfl, rfl⟩
  · rw [if_neg g0, if_neg (fun e => g0 (hgg.2 e)), cpu_eq h0 (by omega) (by omega) (by omega), Option.bind_some]
    exact ⟨A', B', L', _, _, _, _, _, _, true, ⟨hA', hB', hL'⟩, rfl, rfl⟩
theorem frame_eq (D A : List Int) (i2 i3 : Int) {i4 i5 : Int} (h4 : 0 ≤ i4 ∧ i4 ≤ 31) (h5 : 0 ≤ i5 ∧ i5 ≤ 7) (b6 b7 : Bool) (B : List Int) (L : List S115) (b10 b11 : Bool) {e0 e1 e2 e3 : Int} {e4 : Bool} (hg : goodFault e0 e1 e2 e3 e4 = true) :
    ∃ fr : List Int, spec_l11Frame.f D A i2 i3 i4 i5 b6 b7 e0 e1 e2 e3 e4 = some fr ∧ impl_frameOf.f D A i2 i3 i4 i5 b6 b7 B L b10 b11 e0 e1 e2 e3 e4 = some fr ∧ (∀ v ∈ fr, 0 ≤ v ∧ v ≤ 65535) ∧ (0 < fr.length ∧ fr.length ≤ 5) := by
  have hs := stat_eq h4 h5 b6 b7
  have hi := info_all e4 b6
  unfold goodFault at hg
  simp only [decide_eq_true_eq] at hg
  unfold spec_l11Frame.f impl_frameOf.f spec_l11Info.f impl_infoOf.f spec_l6Status.f Regs_statusAt.f
  simp only [Option.bind_some, lLong_eq, isLong_eq, flagI_eq, flagL_eq]
  have hss : wrap64 ((wrap64 ((wrap64 (i4 + (wrap64 (32 * i5)))) + (if b6 = true then 256 else 0))) + (if b7 = true then 512 else 0)) = statB i4 i5 b6 b7 := rfl
  rw [hss]
  by_cases hl : e0 = 2 ∨ e0 = 3
  · simp only [decide_eq_true hl, if_true]
    refine ⟨_, rfl, rfl, ?_, by simp⟩
    intro v hv
    simp only [List.cons_append, List.nil_append, List.mem_cons, List.not_mem_nil, or_false] at hv
    rcases hv with rfl | rfl | rfl | rfl | rfl
    · omega
    · exact hs.2
    · omega
    · omega
    · exact hi
  · simp only [decide_eq_false hl, Bool.false_eq_true, if_false]
    refine ⟨_, rfl, rfl, ?_, by simp⟩
    intro v hv
    simp only [List.mem_cons, List.not_mem_nil, or_false] at hv
    rcases hv with rfl | rfl
    · omega
    · exact hs.2
set_option maxRecDepth 100000 in
theorem FnExactEnterFault : ∀ (l0_0 : (List Int)) (l0_1 : (List Int)) (a0_2 : Int) (a0_3 : Int) (a0_4 : Int) (a0_5 : Int) (a0_6 : Bool) (a0_7 : Bool) (l0_8 : (List Int)) (l0_9 : (List S120)) (a0_10 : Bool) (a0_11 : Bool) (a1_0 : Int) (a1_1 : Int) (a1_2 : Int) (a1_3 : Int) (a1_4 : Bool), l0_0.length ≤ 9223372036854775807 → l0_1.length ≤ 9223372036854775807 → (Lit.int .i64 a0_2).wf = true → (Lit.int .i64 a0_3).wf = true → (Lit.int .i64 a0_4).wf = true → (Lit.int .i64 a0_5).wf = true → l0_8.length ≤ 9223372036854775807 → l0_9.length ≤ 9223372036854775807 → (Lit.int .i64 a1_0).wf = true → (Lit.int .i64 a1_1).wf = true → (Lit.int .i64 a1_2).wf = true → (Lit.int .i64 a1_3).wf = true → ∃ k, laws_FnExactEnterFault.f k l0_0 l0_1 a0_2 a0_3 a0_4 a0_5 a0_6 a0_7 l0_8 l0_9 a0_10 a0_11 a1_0 a1_1 a1_2 a1_3 a1_4 = some true := by
  intro l0 l1 a2 a3 a4 a5 a6 a7 l8 l9 a10 a11 e0 e1 e2 e3 e4 h0 h1 _ _ _ _ h8 h9 _ _ _ _
  obtain ⟨r, hr, hc⟩ := szCpu_eq l0 l1 a2 a3 a4 a5 a6 a7 l8 l9 a10 a11 1048576 (by omega) h0 h1 h8 h9
  rcases hc with hc | ⟨p, _, s0, s1, s8, s9⟩
  · refine ⟨0, ?_⟩
    unfold laws_FnExactEnterFault.f
    rw [hr, Option.bind_some, if_pos hc]
    try rw [Option.bind_some, if_pos (by omega)]
  · refine ⟨4194304, ?_⟩
    have e9 : (l9.map convA).length = l9.length := by simp
    have f0 : Fits 4194304 l0.length := ⟨s0, by omega⟩
    have f1 : Fits 4194304 l1.length := ⟨s1, by omega⟩
    have f8 : Fits 4194304 l8.length := ⟨s8, by omega⟩
    have f9 : Fits 4194304 l9.length := ⟨s9, by omega⟩
    have f9' : Fits 4194304 (l9.map convA).length := ⟨by omega, by omega⟩
    have hs : ∃ (m0 m1 : List Int) (b2 b3 b4 b5 : Int) (b6 b7 : Bool) (m8 : List Int) (m9 : List S115) (b10 b11 b12 : Bool), (Fits 4194304 m0.length ∧ Fits 4194304 m1.length ∧ Fits 4194304 m8.length ∧ Fits 4194304 m9.length) ∧
        spec_EnterFault.f 4194304 l0 l1 a2 a3 a4 a5 a6 a7 l8 (l9.map convA) a10 a11 e0 e1 e2 e3 e4 = some (m0, m1, b2, b3, b4, b5, b6, b7, m8, m9, b10, b11, b12) ∧
        impl_EnterFault.f 4194304 l0 l1 a2 a3 a4 a5 a6 a7 l8 (l9.map convA) a10 a11 e0 e1 e2 e3 e4 = some (m0, m1, b2, b3, b4, b5, b6, b7, m8, m9, b10, b11, b12) := by
      have hn : Fits 4194304 ([] : List Int).length := ⟨by simp, by simp⟩
      have hnA : Fits 4194304 ([] : List S115).length := ⟨by simp, by simp⟩
      have hZ : ∃ (m0 m1 : List Int) (b2 b3 b4 b5 : Int) (b6 b7 : Bool) (m8 : List Int) (m9 : List S115) (b10 b11 b12 : Bool), (Fits 4194304 m0.length ∧ Fits 4194304 m1.length ∧ Fits 4194304 m8.length ∧ Fits 4194304 m9.length) ∧
          some (([] : List Int), ([] : List Int), (0 : Int), (0 : Int), (0 : Int), (0 : Int), false, false, ([] : List Int), ([] : List S115), false, false, false) = some (m0, m1, b2, b3, b4, b5, b6, b7, m8, m9, b10, b11, b12) ∧
          some (([] : List Int), ([] : List Int), (0 : Int), (0 : Int), (0 : Int), (0 : Int), false, false, ([] : List Int), ([] : List S115), false, false, false) = some (m0, m1, b2, b3, b4, b5, b6, b7, m8, m9, b10, b11, b12) :=
        ⟨[], [], 0, 0, 0, 0, false, false, [], [], false, false, false, ⟨hn, hn, hn, hnA⟩, rfl, rfl⟩
      unfold spec_EnterFault.f impl_EnterFault.f
      rw [lCpu_eq f0 f1 ⟨s8, by omega, by omega⟩, iCpu_eq f0 f1 f8 f9', lGoodFault_eq, iGoodFault_eq]
      simp only [Option.bind_some]
      cases hg : goodCpu l0 l1 a2 a3 a4 a5 l8 (l9.map convA) a10 a11 with
      | false => simp only [Bool.false_eq_true, if_false]; exact hZ
      | true =>
        simp only [if_true]
        cases a11 with
        | true => simp only [if_true]; cases goodFault e0 e1 e2 e3 e4 <;> simp only [Bool.false_eq_true, if_false, if_true] <;> exact hZ
        | false =>
          simp only [Bool.false_eq_true, if_false]
          cases hf : goodFault e0 e1 e2 e3 e4 with
          | false => simp only [Bool.false_eq_true, if_false]; exact hZ
          | true =>
            simp only [if_true]
            obtain ⟨g1, g8, g9⟩ := goodCpu_sizes hg
            obtain ⟨-, hb8⟩ := goodCpu_facts hg
            have hp : (0 ≤ a4 ∧ a4 ≤ 31) ∧ (0 ≤ a5 ∧ a5 ≤ 7) := by
              unfold goodCpu goodRegs at hg
              simp only [Bool.and_eq_true, decide_eq_true_eq] at hg
              exact hg.1.2.2.2.2
            have hv : 2 ≤ e0 ∧ e0 ≤ 21 := by
              unfold goodFault at hf
              simp only [decide_eq_true_eq] at hf
              exact hf.1
            rw [lOwn_eq s0 (by omega) (by omega) (by omega), iOwn_eq s0 (by omega) (by omega) (by omega), Option.bind_some, Option.bind_some]
            dsimp only
            obtain ⟨fr, q1, q2, hw, hn5⟩ := frame_eq l0 l1 a2 a3 hp.1 hp.2 a6 a7 l8 (l9.map convA) a10 false hf
            rw [q1, q2, Option.bind_some, Option.bind_some]
            have hst : Regs_statusAt.f a4 a5 a6 a7 = some (statB a4 a5 a6 a7) := by
              unfold Regs_statusAt.f
              rw [flagI_eq, flagI_eq, Option.bind_some, Option.bind_some]; rfl
            rw [hst, Option.bind_some]
            obtain ⟨A', B', L', j2, j3, j4, j5, c6, c7, c11, ⟨z1, z8, z9⟩, e5, e6⟩ := enter_eq (k := 4194304) (by omega) s0 g1 g8 hb8 g9 a2 a3 hp.1 hp.2 a6 a7 fr hw hn5 hv
            rw [e5, e6]
            simp only [Option.bind_some]
            exact ⟨l0, A', j2, j3, j4, j5, c6, c7, B', L', false, c11, true, ⟨f0, ⟨by omega, by omega⟩, ⟨by omega, by omega⟩, ⟨by omega, by omega⟩⟩, rfl, rfl⟩
    obtain ⟨m0, m1, b2, b3, b4, b5, b6, b7, m8, m9, b10, b11, b12, ⟨g0, g1, g8, g9⟩, e1_, e2_⟩ := hs
    unfold laws_FnExactEnterFault.f laws_toFault.f
    rw [hr, Option.bind_some, if_neg (by omega), toCpu_eq f0 f1 f8 f9]
    simp only [Option.bind_some]
    rw [e1_]
    simp only [Option.bind_some]
    rw [e2_]
    simp only [Option.bind_some]
    rw [eqCpu_eq g0 g1 g8 g9, eqCpu_eq f0 f1 f8 f9', markCpu_eq f0 f1 f8 f9', markCpu_eq g0 g1 g8 g9]
    have hneg : ¬ (1 + (m0.length : Int) + (m1.length : Int) + (m8.length : Int) + 5 * (m9.length : Int) < 0) := by omega
    have hneg2 : ¬ (1 + (l0.length : Int) + (l1.length : Int) + (l8.length : Int) + 5 * ((l9.map convA).length : Int) < 0) := by omega
    simp only [Option.bind_some, bne_self_eq_false, Bool.false_eq_true, if_false, if_true, hneg2]
    rw [heldCpu_eq g0 g1 g8 g9]
    simp only [Option.bind_some, bne_self_eq_false, Bool.false_eq_true, if_false, if_true, hneg]

end Go.Proofs.Ythlhapafipikmaa.Pure
