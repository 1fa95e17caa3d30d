/- The law FnExactFetchIns as a plain function answers true for all arguments (numbers of 64 bits, lists of at most 2^63 - 1 elements). No other condition. -/
import Derived.Test.YthlhapafipikmaaCx29
import Derived.Test.YthlhapafipikmaaMath
set_option linter.unusedVariables false
set_option linter.unusedSimpArgs false
namespace Go.Proofs.Ythlhapafipikmaa.Pure
open Go.RowKit Go.Proofs.Ythlhapafipikmaa.C Go.Proofs.YthlhapafipikmaaW.PrintWords Go.Proofs.YthlhapafipikmaaW.PrintLast Go.Proofs.Ythlhapafipikmaa.Math

theorem l1In_eq (a b c : Int) : spec_l1In.f a b c = some (decide (b ≤ a ∧ a ≤ c)) := by
  unfold spec_l1In.f
  by_cases h : b ≤ a <;> simp [h]
theorem within_eq (a b c : Int) : impl_within.f a b c = some (decide (b ≤ a ∧ a ≤ c)) := by
  unfold impl_within.f
  by_cases h : b ≤ a <;> simp [h]
theorem l6Word_eq (a : Int) : spec_l6Word.f a = some (decide (0 ≤ a ∧ a ≤ 65535)) := by
  unfold spec_l6Word.f
  rw [l1In_eq]
  rfl
theorem isWord_eq (a : Int) : impl_isWord.f a = some (decide (0 ≤ a ∧ a ≤ 65535)) := by
  unfold impl_isWord.f
  rw [within_eq]
  rfl
theorem lSize_eq (s : Int) : spec_l1Size.f s = some (decide (s = 1 ∨ s = 2)) := by
  unfold spec_l1Size.f
  by_cases h : s = 1
  · simp [h]
  · by_cases h2 : s = 2 <;> simp [h, h2]
theorem isSize_eq (s : Int) : impl_isSize.f s = some (decide (s = 1 ∨ s = 2)) := by
  unfold impl_isSize.f
  by_cases h : s = 1
  · simp [h]
  · by_cases h2 : s = 2 <;> simp [h, h2]
/-- How many values a size has. -/
def top (s : Int) : Int := if s = 1 then 256 else 65536
theorem lTop_1 : spec_l1Top.f 1 = some 256 := by decide +kernel
theorem lTop_2 : spec_l1Top.f 2 = some 65536 := by decide +kernel
theorem limit_1 : impl_limitOf.f 1 = some 256 := by decide +kernel
theorem limit_2 : impl_limitOf.f 2 = some 65536 := by decide +kernel
theorem lTop_eq {s : Int} (h : s = 1 ∨ s = 2) : spec_l1Top.f s = some (top s) := by
  rcases h with rfl | rfl
  · exact lTop_1
  · exact lTop_2
theorem limit_eq {s : Int} (h : s = 1 ∨ s = 2) : impl_limitOf.f s = some (top s) := by
  rcases h with rfl | rfl
  · exact limit_1
  · exact limit_2
theorem top_le {s : Int} : 256 ≤ top s ∧ top s ≤ 65536 := by unfold top; split <;> omega
/-- Whether v is a value of size s. -/
def isVal (s v : Int) : Bool := decide ((s = 1 ∨ s = 2) ∧ 0 ≤ v ∧ v < top s)
theorem isVal_iff {s v : Int} : isVal s v = true ↔ (s = 1 ∨ s = 2) ∧ 0 ≤ v ∧ v < top s := by simp [isVal]
theorem lValue_eq (s v : Int) : spec_l1Value.f s v = some (isVal s v) := by
  unfold spec_l1Value.f isVal
  rw [lSize_eq]
  by_cases h : s = 1 ∨ s = 2
  · have ht := @top_le s
    simp only [Option.bind_some, decide_eq_true_eq, h, if_true, lTop_eq h, l1In_eq, wrap64_id (n := top s - 1) (by omega) (by omega), true_and]
    congr 1
    rw [decide_eq_decide]
    omega
  · simp [h]
theorem isValue_eq (s v : Int) : impl_isValue.f s v = some (isVal s v) := by
  unfold impl_isValue.f isVal
  rw [isSize_eq]
  by_cases h : s = 1 ∨ s = 2
  · have ht := @top_le s
    simp only [Option.bind_some, decide_eq_true_eq, h, if_true, limit_eq h, within_eq, wrap64_id (n := top s - 1) (by omega) (by omega), true_and]
    congr 1
    rw [decide_eq_decide]
    omega
  · simp [h]
theorem stepNat {i n : Nat} (h : i < n) (hn : n ≤ 1048576) : wrap64 ((i : Int) + 1) = ((i + 1 : Nat) : Int) := by
  rw [wrap64_id (by omega) (by omega)]
  omega
theorem rdI {l : List Int} {i : Nat} (h : i < l.length) : rd l (i : Int) = l[i] := by
  simp [rd, List.getElem?_eq_getElem h]
theorem setMap {α β : Type} (f : α → β) (z : β) (l : List α) (i m : Nat) (h : i + (m + 1) = l.length) :
    ((l.take i).map f ++ List.replicate (m + 1) z).set i (f (l[i]'(by omega))) = (l.take (i + 1)).map f ++ List.replicate m z := by
  have hi : i < l.length := by omega
  rw [List.set_append_right _ _ (by simp; omega), List.take_succ_eq_append_getElem hi, List.map_append, List.append_assoc]
  congr 1
  have : i - ((l.take i).map f).length = 0 := by simp; omega
  rw [this, List.replicate_succ]
  rfl
/-- The four lists of a processor are short, and the rounds are enough for them. -/
def Fits (k : Nat) (n : Nat) : Prop := n ≤ 1048576 ∧ n < k
theorem eqInt_loop (l : List Int) (hl : l.length ≤ 1048576) : ∀ (m i k : Nat), i + m = l.length → m < k → laws_eqIntS.l0 k l l (i : Int) = some true
  | 0, i, k, h, hk => by
    obtain ⟨k, rfl⟩ : ∃ n, k = n + 1 := ⟨k - 1, by omega⟩
    rw [laws_eqIntS.l0, if_neg (by omega)]
  | m + 1, i, k, h, hk => by
    obtain ⟨k, rfl⟩ : ∃ n, k = n + 1 := ⟨k - 1, by omega⟩
    have hi : i < l.length := by omega
    rw [laws_eqIntS.l0, if_pos (by omega), if_pos (by omega), if_pos (by omega), if_pos rfl, stepNat hi hl]
    exact eqInt_loop l hl m (i + 1) k (by omega) (by omega)
theorem eqInt_eq {l : List Int} (hl : l.length ≤ 1048576) {k : Nat} (hk : l.length < k) : laws_eqIntS.f k l l = some true := by
  unfold laws_eqIntS.f
  rw [if_pos rfl]
  exact eqInt_loop l hl l.length 0 k (by omega) hk
theorem rdL {l : List S120} {i : Nat} (h : i < l.length) : rd_T120 l (i : Int) = l[i] := by
  simp [rd_T120, h]
theorem rdA {l : List S115} {i : Nat} (h : i < l.length) : rd_T115 l (i : Int) = l[i] := by
  simp [rd_T115, h]
/-- What the copy of one access is. -/
def convA (x : S120) : S115 := ⟨x.f0, x.f1, x.f2, x.f3, x.f4⟩
theorem toInt_loop (l : List Int) (hl : l.length ≤ 1048576) : ∀ (m i k : Nat), i + m = l.length → m < k →
    laws_toIntS.l0 k l ((l.take i).map id ++ List.replicate m 0) (i : Int) = some l
  | 0, i, k, h, hk => by
    obtain ⟨k, rfl⟩ : ∃ n, k = n + 1 := ⟨k - 1, by omega⟩
    rw [laws_toIntS.l0, if_neg (by omega), List.take_of_length_le (by omega)]
    simp
  | m + 1, i, k, h, hk => by
    obtain ⟨k, rfl⟩ : ∃ n, k = n + 1 := ⟨k - 1, by omega⟩
    have hi : i < l.length := by omega
    rw [laws_toIntS.l0, if_pos (by omega), if_pos (by omega), rdI hi, if_pos (by simp; omega), stepNat hi hl, Int.toNat_natCast]
    have := setMap id (0 : Int) l i m h
    simp only [id] at this
    change laws_toIntS.l0 k l (((l.take i).map id ++ List.replicate (m + 1) 0).set i l[i]) ((i + 1 : Nat) : Int) = _
    rw [this]
    exact toInt_loop l hl m (i + 1) k (by omega) (by omega)
theorem toInt_eq {l : List Int} (hl : l.length ≤ 1048576) {k : Nat} (hk : l.length < k) : laws_toIntS.f k l = some l := by
  unfold laws_toIntS.f
  rw [if_pos (by omega), if_pos (by rw [Int.toNat_natCast]; omega)]
  have := toInt_loop l hl l.length 0 k (by omega) hk
  simpa using this
theorem toAcc_loop (l : List S120) (hl : l.length ≤ 1048576) : ∀ (m i k : Nat), i + m = l.length → m < k →
    laws_toAccessS.l0 k l ((l.take i).map convA ++ List.replicate m z115) (i : Int) = some (l.map convA)
  | 0, i, k, h, hk => by
    obtain ⟨k, rfl⟩ : ∃ n, k = n + 1 := ⟨k - 1, by omega⟩
    rw [laws_toAccessS.l0, if_neg (by omega), List.take_of_length_le (by omega)]
    simp
  | m + 1, i, k, h, hk => by
    obtain ⟨k, rfl⟩ : ∃ n, k = n + 1 := ⟨k - 1, by omega⟩
    have hi : i < l.length := by omega
    rw [laws_toAccessS.l0, if_pos (by omega), if_pos (by omega), rdL hi]
    unfold laws_toAccess.f
    rw [Option.bind_some, if_pos (by simp; omega), stepNat hi hl, Int.toNat_natCast]
    change laws_toAccessS.l0 k l (((l.take i).map convA ++ List.replicate (m + 1) z115).set i (convA l[i])) ((i + 1 : Nat) : Int) = _
    rw [setMap convA z115 l i m h]
    exact toAcc_loop l hl m (i + 1) k (by omega) (by omega)
theorem toAcc_eq {l : List S120} (hl : l.length ≤ 1048576) {k : Nat} (hk : l.length < k) : laws_toAccessS.f k l = some (l.map convA) := by
  unfold laws_toAccessS.f
  rw [if_pos (by omega), if_pos (by rw [Int.toNat_natCast]; omega)]
  have := toAcc_loop l hl l.length 0 k (by omega) hk
  simpa using this
theorem eqAcc_loop (l : List S115) (hl : l.length ≤ 1048576) : ∀ (m i k : Nat), i + m = l.length → m < k → laws_eqAccessS.l0 k l l (i : Int) = some true
  | 0, i, k, h, hk => by
    obtain ⟨k, rfl⟩ : ∃ n, k = n + 1 := ⟨k - 1, by omega⟩
    rw [laws_eqAccessS.l0, if_neg (by omega)]
  | m + 1, i, k, h, hk => by
    obtain ⟨k, rfl⟩ : ∃ n, k = n + 1 := ⟨k - 1, by omega⟩
    have hi : i < l.length := by omega
    have hs : ∀ a b c d e, laws_eqAccess.f a b c d e a b c d e = some true := fun a b c d e => by simp [laws_eqAccess.f]
    rw [laws_eqAccessS.l0, if_pos (by omega), if_pos (by omega), if_pos (by omega), hs, Option.bind_some, if_pos rfl, stepNat hi hl]
    exact eqAcc_loop l hl m (i + 1) k (by omega) (by omega)
theorem eqAcc_eq {l : List S115} (hl : l.length ≤ 1048576) {k : Nat} (hk : l.length < k) : laws_eqAccessS.f k l l = some true := by
  unfold laws_eqAccessS.f
  rw [if_pos rfl]
  exact eqAcc_loop l hl l.length 0 k (by omega) hk
theorem szOne (l : List Int) (a : Int) (ha : 0 ≤ a ∧ a ≤ 1048576) (h : l.length ≤ 9223372036854775807) : ∃ r, laws_szIntS.f l a = some r ∧ (r < 0 ∨ (0 ≤ r ∧ r ≤ 1048576 ∧ l.length ≤ 1048576)) := by
  unfold laws_szIntS.f
  rw [wrap64_id (by omega) (by omega)]
  by_cases h : a - (l.length : Int) < 0
  · rw [if_pos h]
    exact ⟨-1, rfl, Or.inl (by omega)⟩
  · rw [if_neg h]
    exact ⟨_, rfl, Or.inr (by omega)⟩
theorem szAcc (l : List S120) (a : Int) (ha : 0 ≤ a ∧ a ≤ 1048576) (h : l.length ≤ 9223372036854775807) : ∃ r, laws_szAccessS.f l a = some r ∧ (r < 0 ∨ (0 ≤ r ∧ r ≤ 1048576 ∧ l.length ≤ 1048576)) := by
  unfold laws_szAccessS.f
  rw [wrap64_id (by omega) (by omega)]
  by_cases h : a - (l.length : Int) < 0
  · rw [if_pos h]
    exact ⟨-1, rfl, Or.inl (by omega)⟩
  · rw [if_neg h]
    exact ⟨_, rfl, Or.inr (by omega)⟩
theorem toCpu_eq {k : Nat} {l0 l1 l8 : List Int} {l9 : List S120} (h0 : Fits k l0.length) (h1 : Fits k l1.length) (h8 : Fits k l8.length) (h9 : Fits k l9.length) (a2 a3 a4 a5 : Int) (a6 a7 a10 a11 : Bool) :
    laws_toCpu.f k l0 l1 a2 a3 a4 a5 a6 a7 l8 l9 a10 a11 = some (l0, l1, a2, a3, a4, a5, a6, a7, l8, l9.map convA, a10, a11) := by
  unfold laws_toCpu.f laws_toRegs.f laws_toBus.f
  rw [toInt_eq h0.1 h0.2, toInt_eq h1.1 h1.2, toInt_eq h8.1 h8.2, toAcc_eq h9.1 h9.2]
  rfl
theorem eqCpu_eq {k : Nat} {l0 l1 l8 : List Int} {l9 : List S115} (h0 : Fits k l0.length) (h1 : Fits k l1.length) (h8 : Fits k l8.length) (h9 : Fits k l9.length) (a2 a3 a4 a5 : Int) (a6 a7 a10 a11 : Bool) :
    laws_eqCpu.f k l0 l1 a2 a3 a4 a5 a6 a7 l8 l9 a10 a11 l0 l1 a2 a3 a4 a5 a6 a7 l8 l9 a10 a11 = some true := by
  unfold laws_eqCpu.f laws_eqRegs.f laws_eqBus.f
  rw [eqInt_eq h0.1 h0.2, eqInt_eq h1.1 h1.2, eqInt_eq h8.1 h8.2, eqAcc_eq h9.1 h9.2]
  simp
theorem szCpu_eq (l0 l1 : List Int) (a2 a3 a4 a5 : Int) (a6 a7 : Bool) (l8 : List Int) (l9 : List S120) (a10 a11 : Bool) (a : Int) (ha : 0 ≤ a ∧ a ≤ 1048576)
    (h0 : l0.length ≤ 9223372036854775807) (h1 : l1.length ≤ 9223372036854775807) (h8 : l8.length ≤ 9223372036854775807) (h9 : l9.length ≤ 9223372036854775807) :
    ∃ r, laws_szCpu.f l0 l1 a2 a3 a4 a5 a6 a7 l8 l9 a10 a11 a = some r ∧ (r < 0 ∨ (0 ≤ r ∧ r ≤ 1048576 ∧ l0.length ≤ 1048576 ∧ l1.length ≤ 1048576 ∧ l8.length ≤ 1048576 ∧ l9.length ≤ 1048576)) := by
  unfold laws_szCpu.f laws_szRegs.f laws_szBus.f
  obtain ⟨r0, e0, c0⟩ := szOne l0 a ha h0
  rw [e0, Option.bind_some]
  rcases c0 with c0 | ⟨p0, q0, s0⟩
  · rw [if_pos c0, Option.bind_some, if_pos (by omega)]
    exact ⟨_, rfl, Or.inl (by omega)⟩
  obtain ⟨r1, e1, c1⟩ := szOne l1 r0 ⟨p0, q0⟩ h1
  rw [if_neg (by omega), e1, Option.bind_some]
  rcases c1 with c1 | ⟨p1, q1, s1⟩
  · rw [if_pos c1, Option.bind_some, if_pos (by omega)]
    exact ⟨_, rfl, Or.inl (by omega)⟩
  obtain ⟨r8, e8, c8⟩ := szOne l8 r1 ⟨p1, q1⟩ h8
  rw [if_neg (by omega), Option.bind_some, if_neg (by omega), e8, Option.bind_some]
  rcases c8 with c8 | ⟨p8, q8, s8⟩
  · rw [if_pos c8, Option.bind_some, if_pos (by omega)]
    exact ⟨_, rfl, Or.inl (by omega)⟩
  obtain ⟨r9, e9, c9⟩ := szAcc l9 r8 ⟨p8, q8⟩ h9
  rw [if_neg (by omega), e9, Option.bind_some]
  rcases c9 with c9 | ⟨p9, q9, s9⟩
  · rw [if_pos c9, Option.bind_some, if_pos (by omega)]
    exact ⟨_, rfl, Or.inl (by omega)⟩
  rw [if_neg (by omega), Option.bind_some, if_neg (by omega)]
  exact ⟨r9, rfl, Or.inr ⟨p9, q9, s0, s1, s8, s9⟩⟩
/-- What a word, a byte, an access is. -/
def isW (x : Int) : Bool := decide (0 ≤ x ∧ x ≤ 65535)
def isBy (x : Int) : Bool := decide (0 ≤ x ∧ x ≤ 255)
def goodAcc (x : S115) : Bool := decide (1 ≤ x.f0 ∧ x.f0 ≤ 3) && (isVal x.f1 x.f3 && (decide (0 ≤ x.f2 ∧ x.f2 ≤ 65535) && (decide (0 ≤ x.f4 ∧ x.f4 ≤ 3) && (x.f0 != 3 || x.f4 != 0))))
theorem lAcc_eq (x : S115) : spec_l4Access.f x.f0 x.f1 x.f2 x.f3 x.f4 = some (goodAcc x) := by
  unfold spec_l4Access.f spec_l4Addr.f goodAcc
  simp only [l1In_eq, lValue_eq, Option.bind_some]
  cases decide (1 ≤ x.f0 ∧ x.f0 ≤ 3) <;> cases isVal x.f1 x.f3 <;> cases decide (0 ≤ x.f2 ∧ x.f2 ≤ 65535) <;> cases decide (0 ≤ x.f4 ∧ x.f4 ≤ 3) <;> by_cases h : x.f0 = 3 <;> simp [h]
theorem iAcc_eq (x : S115) : impl_isAccess.f x.f0 x.f1 x.f2 x.f3 x.f4 = some (goodAcc x) := by
  unfold impl_isAccess.f goodAcc
  simp only [within_eq, isWord_eq, isValue_eq, Option.bind_some]
  cases decide (1 ≤ x.f0 ∧ x.f0 ≤ 3) <;> cases isVal x.f1 x.f3 <;> cases decide (0 ≤ x.f2 ∧ x.f2 ≤ 65535) <;> cases decide (0 ≤ x.f4 ∧ x.f4 ≤ 3) <;> by_cases h : x.f0 = 3 <;> simp [h]
  all_goals simp [bne]
theorem lBytes_loop (l : List Int) (hl : l.length ≤ 1048576) : ∀ (m i k : Nat), i + m = l.length → m < k →
    spec_l4Bytes.l0 k l (l.length : Int) (i : Int) = some ((l.drop i).all isBy)
  | 0, i, k, h, hk => by
    obtain ⟨k, rfl⟩ : ∃ n, k = n + 1 := ⟨k - 1, by omega⟩
    rw [spec_l4Bytes.l0, if_neg (by omega), List.drop_of_length_le (by omega)]
    rfl
  | m + 1, i, k, h, hk => by
    obtain ⟨k, rfl⟩ : ∃ n, k = n + 1 := ⟨k - 1, by omega⟩
    have hi : i < l.length := by omega
    rw [spec_l4Bytes.l0, if_pos (by omega), if_pos (by omega), if_pos (by omega), rdI hi, l1In_eq, Option.bind_some, List.drop_eq_getElem_cons hi, List.all_cons, stepNat hi hl]
    change (if isBy l[i] = true then _ else _) = _
    cases isBy l[i] with
    | true =>
      rw [if_pos rfl, Bool.true_and]
      exact lBytes_loop l hl m (i + 1) k (by omega) (by omega)
    | false => rfl
theorem lBytes_eq {l : List Int} {k : Nat} (h : Fits k l.length) : spec_l4Bytes.f k l = some (l.all isBy) := by
  unfold spec_l4Bytes.f
  have := lBytes_loop l h.1 l.length 0 k (by omega) h.2
  simpa using this
def goodBus (l8 : List Int) (l9 : List S115) : Bool := l9.all goodAcc && (((l8.length : Int) == 512) && (l8.all isBy && decide ((l9.length : Int) ≤ 400)))
theorem lBus_loop (l8 : List Int) (hb : l8.length ≤ 1048576) (l : List S115) (hl : l.length ≤ 1048576) : ∀ (m i k : Nat), i + m = l.length → l8.length + 1 + m < k →
    spec_GoodBus.l0 k l (l.length : Int) (i : Int) l8 l = some ((l.drop i).all goodAcc && (((l8.length : Int) == 512) && (l8.all isBy && decide ((l.length : Int) ≤ 400))))
  | 0, i, k, h, hk => by
    obtain ⟨k, rfl⟩ : ∃ n, k = n + 1 := ⟨k - 1, by omega⟩
    have h8' : Fits k l8.length := ⟨hb, by omega⟩
    rw [spec_GoodBus.l0, if_neg (by omega), List.drop_of_length_le (by omega), lBytes_eq h8', Option.bind_some]
    by_cases hc : (l8.length : Int) = 512 <;> cases l8.all isBy <;> simp [hc]
  | m + 1, i, k, h, hk => by
    obtain ⟨k, rfl⟩ : ∃ n, k = n + 1 := ⟨k - 1, by omega⟩
    have hi : i < l.length := by omega
    rw [spec_GoodBus.l0, if_pos (by omega), if_pos (by omega), if_pos (by omega), rdA hi, lAcc_eq, Option.bind_some, List.drop_eq_getElem_cons hi, List.all_cons, stepNat hi hl]
    cases goodAcc l[i] with
    | true =>
      rw [if_pos rfl, Bool.true_and]
      exact lBus_loop l8 hb l hl m (i + 1) k (by omega) (by omega)
    | false => rfl
theorem lBus_eq {l8 : List Int} {l9 : List S115} {k : Nat} (h : l8.length ≤ 1048576 ∧ l9.length ≤ 1048576 ∧ l8.length + l9.length + 2 < k) : spec_GoodBus.f k l8 l9 = some (goodBus l8 l9) := by
  unfold spec_GoodBus.f
  obtain ⟨ha, hb, hc⟩ := h
  have := lBus_loop l8 ha l9 hb l9.length 0 k (by omega) (by omega)
  simpa [goodBus] using this
theorem iBy_loop (l : List Int) (hl : l.length ≤ 1048576) : ∀ (m i k : Nat), i + m = l.length → m < k →
    ∃ r, slices_IndexFunc_127_g98.l0 k l (l.length : Int) (i : Int) = some r ∧ decide (r ≥ 0) = !(l.drop i).all isBy
  | 0, i, k, h, hk => by
    obtain ⟨k, rfl⟩ : ∃ n, k = n + 1 := ⟨k - 1, by omega⟩
    refine ⟨-1, ?_, ?_⟩
    · rw [slices_IndexFunc_127_g98.l0, if_neg (by omega)]
    · rw [List.drop_of_length_le (by omega)]
      rfl
  | m + 1, i, k, h, hk => by
    obtain ⟨k, rfl⟩ : ∃ n, k = n + 1 := ⟨k - 1, by omega⟩
    have hi : i < l.length := by omega
    rw [slices_IndexFunc_127_g98.l0, if_pos (by omega), if_pos (by omega), if_pos (by omega), rdI hi, impl_GoodBus_1.f, within_eq, Option.bind_some, Option.bind_some, List.drop_eq_getElem_cons hi, List.all_cons, stepNat hi hl]
    change ∃ r, (if (!isBy l[i]) = true then _ else _) = some r ∧ _
    cases isBy l[i] with
    | true =>
      rw [if_neg (by simp), Bool.true_and]
      exact iBy_loop l hl m (i + 1) k (by omega) (by omega)
    | false => exact ⟨(i : Int), rfl, by simp⟩
theorem iBy_eq {l : List Int} {k : Nat} (h : Fits k l.length) : slices_ContainsFunc_97_g98.f k l = some (!l.all isBy) := by
  unfold slices_ContainsFunc_97_g98.f slices_IndexFunc_127_g98.f
  obtain ⟨r, h1, h2⟩ := iBy_loop l h.1 l.length 0 k (by omega) h.2
  rw [show ((0 : Nat) : Int) = 0 from rfl] at h1
  rw [h1, Option.bind_some, h2]
  rfl
theorem iAc_loop (l : List S115) (hl : l.length ≤ 1048576) : ∀ (m i k : Nat), i + m = l.length → m < k →
    ∃ r, slices_IndexFunc_128_g100.l0 k l (l.length : Int) (i : Int) = some r ∧ decide (r ≥ 0) = !(l.drop i).all goodAcc
  | 0, i, k, h, hk => by
    obtain ⟨k, rfl⟩ : ∃ n, k = n + 1 := ⟨k - 1, by omega⟩
    refine ⟨-1, ?_, ?_⟩
    · rw [slices_IndexFunc_128_g100.l0, if_neg (by omega)]
    · rw [List.drop_of_length_le (by omega)]
      rfl
  | m + 1, i, k, h, hk => by
    obtain ⟨k, rfl⟩ : ∃ n, k = n + 1 := ⟨k - 1, by omega⟩
    have hi : i < l.length := by omega
    rw [slices_IndexFunc_128_g100.l0, if_pos (by omega), if_pos (by omega), if_pos (by omega), rdA hi, impl_GoodBus_2.f, iAcc_eq, Option.bind_some, Option.bind_some, List.drop_eq_getElem_cons hi, List.all_cons, stepNat hi hl]
    change ∃ r, (if (!goodAcc l[i]) = true then _ else _) = some r ∧ _
    cases goodAcc l[i] with
    | true =>
      rw [if_neg (by simp), Bool.true_and]
      exact iAc_loop l hl m (i + 1) k (by omega) (by omega)
    | false => exact ⟨(i : Int), rfl, by simp⟩
theorem iAc_eq {l : List S115} {k : Nat} (h : Fits k l.length) : slices_ContainsFunc_99_g100.f k l = some (!l.all goodAcc) := by
  unfold slices_ContainsFunc_99_g100.f slices_IndexFunc_128_g100.f
  obtain ⟨r, h1, h2⟩ := iAc_loop l h.1 l.length 0 k (by omega) h.2
  rw [show ((0 : Nat) : Int) = 0 from rfl] at h1
  rw [h1, Option.bind_some, h2]
  rfl
theorem iBus_eq {l8 : List Int} {l9 : List S115} {k : Nat} (h8 : Fits k l8.length) (h9 : Fits k l9.length) : impl_GoodBus.f k l8 l9 = some (goodBus l8 l9) := by
  unfold impl_GoodBus.f goodBus
  rw [iBy_eq h8, iAc_eq h9]
  simp only [Option.bind_some]
  by_cases h1 : (l8.length : Int) = 512 <;> by_cases h2 : (l9.length : Int) ≤ 400 <;> cases l8.all isBy <;> cases l9.all goodAcc <;> simp [h1, h2]
theorem lFour_loop (x0 l : List Int) (hl : l.length ≤ 1048576) : ∀ (m i k : Nat), i + m = l.length → m < k →
    spec_l6Four.l0 k x0 l (l.length : Int) (i : Int) = some ((l.drop i).all isW && ((x0.length : Int) == 4))
  | 0, i, k, h, hk => by
    obtain ⟨k, rfl⟩ : ∃ n, k = n + 1 := ⟨k - 1, by omega⟩
    rw [spec_l6Four.l0, if_neg (by omega), List.drop_of_length_le (by omega)]
    rfl
  | m + 1, i, k, h, hk => by
    obtain ⟨k, rfl⟩ : ∃ n, k = n + 1 := ⟨k - 1, by omega⟩
    have hi : i < l.length := by omega
    rw [spec_l6Four.l0, if_pos (by omega), if_pos (by omega), if_pos (by omega), rdI hi, l6Word_eq, Option.bind_some, List.drop_eq_getElem_cons hi, List.all_cons, stepNat hi hl]
    change (if isW l[i] = true then _ else _) = _
    cases isW l[i] with
    | true =>
      rw [if_pos rfl, Bool.true_and]
      exact lFour_loop x0 l hl m (i + 1) k (by omega) (by omega)
    | false => rfl
theorem lFour_eq {l : List Int} {k : Nat} (h : Fits k l.length) : spec_l6Four.f k l = some (l.all isW && ((l.length : Int) == 4)) := by
  unfold spec_l6Four.f
  have := lFour_loop l l h.1 l.length 0 k (by omega) h.2
  simpa using this
theorem iW_loop (l : List Int) (hl : l.length ≤ 1048576) : ∀ (m i k : Nat), i + m = l.length → m < k →
    ∃ r, slices_IndexFunc_127_g126.l0 k l (l.length : Int) (i : Int) = some r ∧ decide (r ≥ 0) = !(l.drop i).all isW
  | 0, i, k, h, hk => by
    obtain ⟨k, rfl⟩ : ∃ n, k = n + 1 := ⟨k - 1, by omega⟩
    refine ⟨-1, ?_, ?_⟩
    · rw [slices_IndexFunc_127_g126.l0, if_neg (by omega)]
    · rw [List.drop_of_length_le (by omega)]
      rfl
  | m + 1, i, k, h, hk => by
    obtain ⟨k, rfl⟩ : ∃ n, k = n + 1 := ⟨k - 1, by omega⟩
    have hi : i < l.length := by omega
    rw [slices_IndexFunc_127_g126.l0, if_pos (by omega), if_pos (by omega), if_pos (by omega), rdI hi, impl_areWords_1.f, isWord_eq, Option.bind_some, Option.bind_some, List.drop_eq_getElem_cons hi, List.all_cons, stepNat hi hl]
    change ∃ r, (if (!isW l[i]) = true then _ else _) = some r ∧ _
    cases isW l[i] with
    | true =>
      rw [if_neg (by simp), Bool.true_and]
      exact iW_loop l hl m (i + 1) k (by omega) (by omega)
    | false => exact ⟨(i : Int), rfl, by simp⟩
theorem iW_eq {l : List Int} {k : Nat} (h : Fits k l.length) : slices_ContainsFunc_97_g126.f k l = some (!l.all isW) := by
  unfold slices_ContainsFunc_97_g126.f slices_IndexFunc_127_g126.f
  obtain ⟨r, h1, h2⟩ := iW_loop l h.1 l.length 0 k (by omega) h.2
  rw [show ((0 : Nat) : Int) = 0 from rfl] at h1
  rw [h1, Option.bind_some, h2]
  rfl
theorem iFour_eq {l : List Int} {k : Nat} (h : Fits k l.length) : impl_areWords.f k l = some (l.all isW && ((l.length : Int) == 4)) := by
  unfold impl_areWords.f
  by_cases hc : (l.length : Int) = 4
  · rw [if_pos hc, iW_eq h, Option.bind_some]
    simp [hc]
  · rw [if_neg hc]
    simp [hc]
theorem lFlags1_eq (a : Int) : spec_l1Flags.f a = some (decide (0 ≤ a ∧ a ≤ 31)) := by
  unfold spec_l1Flags.f
  rw [l1In_eq]
  rfl
theorem iFlags1_eq (a : Int) : impl_areFlags.f a = some (decide (0 ≤ a ∧ a ≤ 31)) := by
  unfold impl_areFlags.f
  rw [within_eq]
  rfl
def goodRegs (l0 l1 : List Int) (a2 a3 a4 a5 : Int) : Bool := (l0.all isW && ((l0.length : Int) == 4)) && ((l1.all isW && ((l1.length : Int) == 4)) && (isW a2 && (isW a3 && (decide (0 ≤ a4 ∧ a4 ≤ 31) && decide (0 ≤ a5 ∧ a5 ≤ 7)))))
theorem lRegs_eq {l0 l1 : List Int} {k : Nat} (h0 : Fits k l0.length) (h1 : Fits k l1.length) (a2 a3 a4 a5 : Int) (a6 a7 : Bool) : spec_GoodRegs.f k l0 l1 a2 a3 a4 a5 a6 a7 = some (goodRegs l0 l1 a2 a3 a4 a5) := by
  unfold spec_GoodRegs.f goodRegs isW
  rw [lFour_eq h0, lFour_eq h1]
  simp only [l6Word_eq, lFlags1_eq, l1In_eq, Option.bind_some]
  unfold isW
  cases (l0.all (fun x => decide (0 ≤ x ∧ x ≤ 65535)) && ((l0.length : Int) == 4)) <;> cases (l1.all (fun x => decide (0 ≤ x ∧ x ≤ 65535)) && ((l1.length : Int) == 4)) <;> cases decide (0 ≤ a2 ∧ a2 ≤ 65535) <;> cases decide (0 ≤ a3 ∧ a3 ≤ 65535) <;> cases decide (0 ≤ a4 ∧ a4 ≤ 31) <;> rfl
theorem iRegs_eq {l0 l1 : List Int} {k : Nat} (h0 : Fits k l0.length) (h1 : Fits k l1.length) (a2 a3 a4 a5 : Int) (a6 a7 : Bool) : impl_GoodRegs.f k l0 l1 a2 a3 a4 a5 a6 a7 = some (goodRegs l0 l1 a2 a3 a4 a5) := by
  unfold impl_GoodRegs.f goodRegs isW
  rw [iFour_eq h0, iFour_eq h1]
  simp only [isWord_eq, iFlags1_eq, within_eq, Option.bind_some]
  unfold isW
  cases (l0.all (fun x => decide (0 ≤ x ∧ x ≤ 65535)) && ((l0.length : Int) == 4)) <;> cases (l1.all (fun x => decide (0 ≤ x ∧ x ≤ 65535)) && ((l1.length : Int) == 4)) <;> cases decide (0 ≤ a2 ∧ a2 ≤ 65535) <;> cases decide (0 ≤ a3 ∧ a3 ≤ 65535) <;> cases decide (0 ≤ a4 ∧ a4 ≤ 31) <;> rfl
def goodCpu (l0 l1 : List Int) (a2 a3 a4 a5 : Int) (l8 : List Int) (l9 : List S115) (a10 a11 : Bool) : Bool := goodRegs l0 l1 a2 a3 a4 a5 && (goodBus l8 l9 && !(a10 && a11))
theorem lCpu_eq {k : Nat} {l0 l1 l8 : List Int} {l9 : List S115} (h0 : Fits k l0.length) (h1 : Fits k l1.length) (h : l8.length ≤ 1048576 ∧ l9.length ≤ 1048576 ∧ l8.length + l9.length + 2 < k) (a2 a3 a4 a5 : Int) (a6 a7 a10 a11 : Bool) :
    spec_GoodCpu.f k l0 l1 a2 a3 a4 a5 a6 a7 l8 l9 a10 a11 = some (goodCpu l0 l1 a2 a3 a4 a5 l8 l9 a10 a11) := by
  unfold spec_GoodCpu.f goodCpu
  rw [lRegs_eq h0 h1, lBus_eq h, Option.bind_some, Option.bind_some]
  cases goodRegs l0 l1 a2 a3 a4 a5 <;> cases goodBus l8 l9 <;> cases a10 <;> cases a11 <;> rfl
theorem iCpu_eq {k : Nat} {l0 l1 l8 : List Int} {l9 : List S115} (h0 : Fits k l0.length) (h1 : Fits k l1.length) (h8 : Fits k l8.length) (h9 : Fits k l9.length) (a2 a3 a4 a5 : Int) (a6 a7 a10 a11 : Bool) :
    impl_GoodCpu.f k l0 l1 a2 a3 a4 a5 a6 a7 l8 l9 a10 a11 = some (goodCpu l0 l1 a2 a3 a4 a5 l8 l9 a10 a11) := by
  unfold impl_GoodCpu.f goodCpu
  rw [iRegs_eq h0 h1, iBus_eq h8 h9, Option.bind_some, Option.bind_some]
  cases goodRegs l0 l1 a2 a3 a4 a5 <;> cases goodBus l8 l9 <;> cases a10 <;> cases a11 <;> rfl
def memB (m : Int) : Bool := decide (2 ≤ m ∧ m ≤ 6)
def plainB (m : Int) : Bool := m == 2 || (m == 5 || m == 6)
def nowB (m e : Int) : Bool := m == 7 && decide (e ≤ 1023)
def zeroB (m r e : Int) : Bool := m == 0 && (r == 0 && (e == 0))
/-- Whether an operand is good. -/
def goodEa (m r e : Int) : Bool := decide (0 ≤ m ∧ m ≤ 7) && decide (0 ≤ r ∧ r ≤ 3) && decide (0 ≤ e ∧ e ≤ 65535) && (decide (5 ≤ m) || e == 0) && (decide (m < 6) || r == 0)
theorem lMemory_eq (m : Int) : spec_l7Memory.f m = some (memB m) := by
  unfold spec_l7Memory.f
  rw [l1In_eq]
  rfl
theorem isMemory_eq (m : Int) : impl_isMemory.f m = some (memB m) := by
  unfold impl_isMemory.f
  rw [within_eq]
  rfl
theorem lPlain_eq (m : Int) : spec_l7Plain.f m = some (plainB m) := by
  unfold spec_l7Plain.f plainB
  by_cases h : m = 2
  · simp [h]
  · have e1 : (m == 2) = false := beq_eq_false_iff_ne.2 h
    by_cases h2 : m = 5
    · simp [h2]
    · have e2 : (m == 5) = false := beq_eq_false_iff_ne.2 h2
      simp [h, h2, e1, e2]
theorem isPlain_eq (m : Int) : impl_isPlain.f m = some (plainB m) := by
  unfold impl_isPlain.f plainB
  by_cases h : m = 2
  · simp [h]
  · have e1 : (m == 2) = false := beq_eq_false_iff_ne.2 h
    by_cases h2 : m = 5
    · simp [h2]
    · have e2 : (m == 5) = false := beq_eq_false_iff_ne.2 h2
      simp [h, h2, e1, e2]
theorem lNow_eq (m r e : Int) : spec_l7Now.f m r e = some (nowB m e) := by
  unfold spec_l7Now.f nowB
  by_cases h : m = 7 <;> simp [h]
theorem isNow_eq (m r e : Int) : impl_isNow.f m r e = some (nowB m e) := by
  unfold impl_isNow.f nowB
  by_cases h : m = 7 <;> simp [h]
theorem lZero_eq (m r e : Int) : spec_l7Zero.f m r e = some (zeroB m r e) := rfl
theorem isSettable_eq (m : Int) : impl_isSettable.f m = some (m == 0 || memB m) := by
  unfold impl_isSettable.f
  rw [isMemory_eq]
  by_cases h : m = 0 <;> simp [h]
theorem lExt_eq (m : Int) : spec_l6Ext.f m = some (decide (5 ≤ m)) := rfl
theorem needsExt_eq (m : Int) : impl_needsExt.f m = some (decide (m = 5 ∨ m = 6 ∨ m = 7)) := by
  unfold impl_needsExt.f
  by_cases h : m = 5
  · simp [h]
  · by_cases h2 : m = 6
    · simp [h2]
    · by_cases h3 : m = 7 <;> simp [h, h2, h3]
theorem lGoodOperand_eq (k : Nat) (m r e : Int) : spec_GoodOperand.f (k + 1) m r e = some (goodEa m r e) := by
  unfold spec_GoodOperand.f goodEa
  simp only [l1In_eq, l6Word_eq, lExt_eq, Option.bind_some, spec_GoodOperand.j0, decide_eq_true_eq]
  by_cases h1 : 0 ≤ m ∧ m ≤ 7 <;> by_cases h2 : 0 ≤ r ∧ r ≤ 3 <;> by_cases h3 : 0 ≤ e ∧ e ≤ 65535 <;> by_cases h4 : 6 ≤ m <;> by_cases h5 : r = 0 <;> by_cases h6 : 5 ≤ m <;> simp [h1, h2, h3, h4, h5, h6, Int.not_lt.2, Int.not_le] <;> omega
theorem goodOperand_eq (m r e : Int) : impl_GoodOperand.f m r e = some (goodEa m r e) := by
  unfold impl_GoodOperand.f goodEa
  simp only [within_eq, isWord_eq, needsExt_eq, Option.bind_some, decide_eq_true_eq]
  by_cases h1 : 0 ≤ m ∧ m ≤ 7
  · have e1 : (m = 5 ∨ m = 6 ∨ m = 7) ↔ 5 ≤ m := by omega
    simp only [e1]
    by_cases h2 : 0 ≤ r ∧ r ≤ 3 <;> by_cases h3 : 0 ≤ e ∧ e ≤ 65535 <;> by_cases h4 : m < 6 <;> by_cases h5 : r = 0 <;> by_cases h6 : 5 ≤ m <;> by_cases h7 : e = 0 <;> simp [h1, h2, h3, h4, h5, h6, h7]
  · simp [h1]
/-- Whether an instruction is right by its Op. -/
def kindB (op s r m er e b : Int) : Bool :=
  if op = 1 ∨ op = 3 ∨ op = 4 ∨ op = 5 ∨ op = 6 ∨ op = 7 ∨ op = 8 then b == 0 && (s == 2 || m != 1)
  else if op = 2 then b == 0 && (m == 0 || memB m)
  else if op = 9 then s == 2 && b == 0
  else if op = 10 then s == 2 && (b == 0 && plainB m)
  else if op = 11 then r == 0 && (decide (b ≤ 3) && (m == 0 || memB m))
  else if op = 12 then m == 0
  else if op = 13 then s == 2 && (decide (r ≤ 1) && m == 7)
  else if op = 14 then s == 2 && (r == 0 && (decide (b ≤ 1) && plainB m))
  else if op = 15 then (if b = 3 then s == 2 && (r == 0 && nowB m e) else s == 2 && (decide (b ≤ 6) && (zeroB m er e && (decide (3 < b) || r == 0))))
  else if op = 16 ∨ op = 17 then s == 2 && (b == 0 && m != 1)
  else if op = 18 then s != 2 && (decide (b ≤ 1) && m == 0)
  else if op = 19 then s == 2 && ((b == 0 && (r == 0 && nowB m e)) || (b == 1 && zeroB m er e))
  else false
/-- Whether an instruction is good. -/
def goodIns (op s r m er e b : Int) : Bool :=
  decide (s = 1 ∨ s = 2) && decide (0 ≤ r ∧ r ≤ 3) && decide (0 ≤ b ∧ b ≤ 7) && goodEa m er e && !(m == 7 && (s == 1 && decide (255 < e))) && kindB op s r m er e b
theorem lIns_kind (k : Nat) (op s r m er e b : Int) : spec_GoodIns.j0 (k + 3) false op s r m er e b = some (kindB op s r m er e b) := by
  have hcases : (op = 1 ∨ op = 3 ∨ op = 4 ∨ op = 5 ∨ op = 6 ∨ op = 7 ∨ op = 8) ∨ op = 2 ∨ op = 9 ∨ op = 10 ∨ op = 11 ∨ op = 12 ∨ op = 13 ∨ op = 14 ∨ op = 15 ∨ op = 16 ∨ op = 17 ∨ op = 18 ∨ op = 19 ∨ (op < 1 ∨ 19 < op) := by omega
  simp only [spec_GoodIns.j0, spec_GoodIns.j1, spec_GoodIns.j2, lMemory_eq, lPlain_eq, lNow_eq, lZero_eq, Option.bind_some, Bool.false_eq_true, if_false]
  unfold kindB
  rcases hcases with (rfl | rfl | rfl | rfl | rfl | rfl | rfl) | rfl | rfl | rfl | rfl | rfl | rfl | rfl | rfl | rfl | rfl | rfl | rfl | h
  case inr.inr.inr.inr.inr.inr.inr.inr.inr.inr.inr.inr.inr => simp [show op ≠ 1 by omega, show op ≠ 2 by omega, show op ≠ 3 by omega, show op ≠ 4 by omega, show op ≠ 5 by omega, show op ≠ 6 by omega, show op ≠ 7 by omega, show op ≠ 8 by omega, show op ≠ 9 by omega, show op ≠ 10 by omega, show op ≠ 11 by omega, show op ≠ 12 by omega, show op ≠ 13 by omega, show op ≠ 14 by omega, show op ≠ 15 by omega, show op ≠ 16 by omega, show op ≠ 17 by omega, show op ≠ 18 by omega, show op ≠ 19 by omega]
  all_goals first
    | (simp; done)
    | grind
theorem lIns_true (k : Nat) (op s r m er e b : Int) : spec_GoodIns.j0 (k + 3) true op s r m er e b = some false := by simp [spec_GoodIns.j0]
theorem lGoodIns_eq (k : Nat) (op s r m er e b : Int) : spec_GoodIns.f (k + 3) op s r m er e b = some (goodIns op s r m er e b) := by
  unfold spec_GoodIns.f goodIns
  simp only [lSize_eq, l1In_eq, lGoodOperand_eq, Option.bind_some, decide_eq_true_eq, lIns_true, lIns_kind]
  have hm : (m == 7) = decide (m = 7) := rfl
  have hs : (s == 1) = decide (s = 1) := rfl
  by_cases h1 : s = 1 ∨ s = 2 <;> by_cases h2 : 0 ≤ r ∧ r ≤ 3 <;> cases h3 : goodEa m er e <;> by_cases h4 : 0 ≤ b ∧ b ≤ 7 <;> simp only [h1, h2, h4, if_true, if_false, decide_true, decide_false, Bool.true_and, Bool.false_and, Bool.and_false, Bool.false_eq_true, hm, hs, and_self]
  by_cases h5 : m = 7 <;> by_cases h6 : s = 1 <;> by_cases h7 : e > 255 <;> simp [h5, h6, h7, lIns_true, lIns_kind]
theorem iKind_eq (k : Nat) (op s r m er e b : Int) (hs : s = 1 ∨ s = 2) (hb : 0 ≤ b) : impl_isKind.f (k + 3) op s r m er e b = some (kindB op s r m er e b) := by
  have hcases : (op = 1 ∨ op = 3 ∨ op = 4 ∨ op = 5 ∨ op = 6 ∨ op = 7 ∨ op = 8) ∨ op = 2 ∨ op = 9 ∨ op = 10 ∨ op = 11 ∨ op = 12 ∨ op = 13 ∨ op = 14 ∨ op = 15 ∨ op = 16 ∨ op = 17 ∨ op = 18 ∨ op = 19 ∨ (op < 1 ∨ 19 < op) := by omega
  simp only [impl_isKind.f, impl_isKind.j0, impl_isKind.j1, impl_isFlow.f, impl_isFlow.j0, isSettable_eq, isPlain_eq, isNow_eq, Option.bind_some]
  unfold kindB zeroB
  rcases hcases with (rfl | rfl | rfl | rfl | rfl | rfl | rfl) | rfl | rfl | rfl | rfl | rfl | rfl | rfl | rfl | rfl | rfl | rfl | rfl | h
  case inr.inr.inr.inr.inr.inr.inr.inr.inr.inr.inr.inr.inr => simp [show op ≠ 1 by omega, show op ≠ 2 by omega, show op ≠ 3 by omega, show op ≠ 4 by omega, show op ≠ 5 by omega, show op ≠ 6 by omega, show op ≠ 7 by omega, show op ≠ 8 by omega, show op ≠ 9 by omega, show op ≠ 10 by omega, show op ≠ 11 by omega, show op ≠ 12 by omega, show op ≠ 13 by omega, show op ≠ 14 by omega, show op ≠ 15 by omega, show op ≠ 16 by omega, show op ≠ 17 by omega, show op ≠ 18 by omega, show op ≠ 19 by omega]
  case inr.inr.inr.inr.inr.inr.inr.inr.inl =>
    by_cases h3 : b = 3
    · subst h3
      rcases hs with rfl | rfl <;> by_cases hr : r = 0 <;> simp [hr]
    · by_cases h6 : b ≤ 6
      · have e6 : ¬ b > 6 := by omega
        by_cases hl : b < 3
        · have e3 : ¬ 3 < b := by omega
          rcases hs with rfl | rfl <;> by_cases hr : r = 0 <;> simp [h3, h6, e6, hl, e3, hr]
        · have e3 : 3 < b := by omega
          rcases hs with rfl | rfl <;> by_cases hr : r = 0 <;> simp [h3, h6, e6, hl, e3, hr]
      · have e6 : b > 6 := by omega
        rcases hs with rfl | rfl <;> simp [h3, h6, e6]
  all_goals first
    | (simp; done)
    | grind
theorem iGoodIns_eq (k : Nat) (op s r m er e b : Int) : impl_GoodIns.f (k + 3) op s r m er e b = some (goodIns op s r m er e b) := by
  unfold impl_GoodIns.f goodIns
  simp only [isSize_eq, within_eq, goodOperand_eq, Option.bind_some, decide_eq_true_eq]
  by_cases h1 : s = 1 ∨ s = 2
  · by_cases h4 : 0 ≤ b ∧ b ≤ 7
    · rw [iKind_eq k op s r m er e b h1 h4.1]
      rcases h1 with rfl | rfl <;> cases h3 : goodEa m er e <;> by_cases h2 : 0 ≤ r ∧ r ≤ 3 <;> by_cases h5 : m = 7 <;> by_cases h7 : e > 255 <;> simp [h2, h4, h5, h7]
    · simp [h1, h4]
  · simp [h1]
/-- How many words an instruction has that begins with a word. -/
def longB (w : Int) : Int := if (w / 32) % 8 ≥ 5 then 2 else 1
theorem lLong_eq (w : Int) : spec_l7Long.f w = some (longB w) := by
  unfold spec_l7Long.f longB
  rw [lExt_eq, and_7, Option.bind_some]
  by_cases h : 5 ≤ (w / 32) % 8 <;> simp [h]
theorem iLong_eq (w : Int) : impl_longOf.f w = some (longB w) := by
  unfold impl_longOf.f longB impl_flag.f
  rw [needsExt_eq, and_7, Option.bind_some]
  by_cases h : 5 ≤ (w / 32) % 8
  · rw [decide_eq_true (by omega), if_pos rfl, if_pos h, Option.bind_some, wrap64_id (by omega) (by omega)]
    rfl
  · rw [decide_eq_false (by omega), if_neg (by simp), if_neg h, Option.bind_some, wrap64_id (by omega) (by omega)]
    rfl
theorem lDecode_eq (w n : Int) : spec_l7Decode.f w n = some (w / 2048, wrap64 ((Go.bits .and .i64 (w / 1024) 1) + 1), Go.bits .and .i64 (w / 256) 3, Go.bits .and .i64 (w / 32) 7, Go.bits .and .i64 (w / 8) 3, (if longB w = 2 then n else 0), Go.bits .and .i64 w 7) := by
  unfold spec_l7Decode.f
  rw [lLong_eq, Option.bind_some]
  by_cases h : longB w = 2 <;> simp [h]
theorem iDecode_eq (w n : Int) : impl_decoded.f w n = some (w / 2048, wrap64 ((Go.bits .and .i64 (w / 1024) 1) + 1), Go.bits .and .i64 (w / 256) 3, Go.bits .and .i64 (w / 32) 7, Go.bits .and .i64 (w / 8) 3, (if longB w = 2 then n else 0), Go.bits .and .i64 w 7) := by
  unfold impl_decoded.f
  rw [iLong_eq, Option.bind_some]
  by_cases h : longB w = 2 <;> simp [h]
theorem lOwn_eq {l0 l1 l8 : List Int} {l9 : List S115} (h0 : l0.length ≤ 1048576) (h1 : l1.length ≤ 1048576) (h8 : l8.length ≤ 1048576) (h9 : l9.length ≤ 1048576) (a2 a3 a4 a5 : Int) (a6 a7 a10 a11 : Bool) :
    spec_l10Own.f l0 l1 a2 a3 a4 a5 a6 a7 l8 l9 a10 a11 = some (l0, l1, a2, a3, a4, a5, a6, a7, l8, l9, a10, a11) := by
  unfold spec_l10Own.f spec_l6Own.f spec_l4Own.f
  simp only [Option.bind_some, List.length_nil, List.nil_append]
  rw [if_pos (by omega), if_pos (by omega), if_pos (by omega), if_pos (by omega)]
  rfl
theorem iOwn_eq {l0 l1 l8 : List Int} {l9 : List S115} (h0 : l0.length ≤ 1048576) (h1 : l1.length ≤ 1048576) (h8 : l8.length ≤ 1048576) (h9 : l9.length ≤ 1048576) (a2 a3 a4 a5 : Int) (a6 a7 a10 a11 : Bool) :
    impl_ownCpu.f l0 l1 a2 a3 a4 a5 a6 a7 l8 l9 a10 a11 = some (l0, l1, a2, a3, a4, a5, a6, a7, l8, l9, a10, a11) := by
  unfold impl_ownCpu.f impl_ownRegs.f impl_ownBus.f slices_Clone_int_int.f impl_Access_103.f
  simp only [Option.bind_some, List.length_nil, List.nil_append]
  rw [if_pos (by omega), if_pos (by omega), if_pos (by omega), if_pos (by omega)]
  rfl
/-- What an address is, and what an access is told. -/
def kindA (a : Int) : Int := if (448 ≤ a ∧ a ≤ 495) ∨ 512 ≤ a then 1 else if 384 ≤ a ∧ a ≤ 447 then 3 else 0
def codeA (kind size a : Int) : Int := if size = 2 ∧ a % 2 = 1 then 2 else if kindA a = 1 ∨ kindA (a + size - 1) = 1 then 1 else if kind = 2 ∧ (kindA a = 3 ∨ kindA (a + size - 1) = 3) then 3 else 0
theorem lKind_eq {k : Nat} (hk : 0 < k) (a : Int) : spec_l4Kind.f k a = some (kindA a) := by
  obtain ⟨k, rfl⟩ : ∃ n, k = n + 1 := ⟨k - 1, by omega⟩
  unfold spec_l4Kind.f kindA
  rw [l1In_eq]
  by_cases h1 : a ≥ 512
  · rw [if_pos h1, spec_l4Kind.j0, if_pos (decide_eq_true h1), if_pos (Or.inr h1)]
  rw [if_neg h1, Option.bind_some, spec_l4Kind.j0]
  by_cases h2 : 448 ≤ a ∧ a ≤ 495
  · rw [if_pos (decide_eq_true h2), if_pos (Or.inl h2)]
  rw [if_neg (by simpa using h2), if_neg (by rintro (h | h) <;> omega), l1In_eq, Option.bind_some]
  by_cases h3 : 384 ≤ a ∧ a ≤ 447
  · rw [if_pos (decide_eq_true h3), if_pos h3]
  · rw [if_neg (by simpa using h3), if_neg h3]
theorem iKindOf_eq {k : Nat} (hk : 0 < k) (a : Int) : impl_kindOf.f k a = some (kindA a) := by
  obtain ⟨k, rfl⟩ : ∃ n, k = n + 1 := ⟨k - 1, by omega⟩
  unfold impl_kindOf.f kindA
  rw [within_eq, Option.bind_some]
  by_cases h2 : 448 ≤ a ∧ a ≤ 495
  · rw [if_pos (decide_eq_true h2), impl_kindOf.j0, if_pos rfl, if_pos (Or.inl h2)]
  rw [if_neg (by simpa using h2), impl_kindOf.j0]
  by_cases h1 : a ≥ 512
  · rw [if_pos (decide_eq_true h1), if_pos (Or.inr h1)]
  rw [if_neg (by simpa using h1), if_neg (by rintro (h | h) <;> omega), within_eq, Option.bind_some]
  by_cases h3 : 384 ≤ a ∧ a ≤ 447
  · rw [if_pos (decide_eq_true h3), if_pos h3]
  · rw [if_neg (by simpa using h3), if_neg h3]
theorem kindA_cases (a : Int) : kindA a = 0 ∨ kindA a = 1 ∨ kindA a = 3 := by
  unfold kindA
  split
  · exact Or.inr (Or.inl rfl)
  · split
    · exact Or.inr (Or.inr rfl)
    · exact Or.inl rfl
theorem lastW {size a : Int} (hs : size = 1 ∨ size = 2) (ha : 0 ≤ a ∧ a ≤ 65535) : wrap64 (wrap64 (a + size) - 1) = a + size - 1 := by
  rw [wrap64_id (n := a + size) (by omega) (by omega), wrap64_id (by omega) (by omega)]
theorem lCode_eq {k : Nat} (hk : 3 ≤ k) (kind : Int) {size a : Int} (hs : size = 1 ∨ size = 2) (ha : 0 ≤ a ∧ a ≤ 65535) : spec_l4Code.f k kind size a = some (codeA kind size a) := by
  obtain ⟨k, rfl⟩ : ∃ n, k = n + 2 := ⟨k - 2, by omega⟩
  have h0 : ∀ b : Bool, spec_l4Code.j0 (k + 2) kind a (a + size - 1) b = some (if b = true then 2 else if kindA a = 1 ∨ kindA (a + size - 1) = 1 then 1 else if kind = 2 ∧ (kindA a = 3 ∨ kindA (a + size - 1) = 3) then 3 else 0) := by
    intro b
    rw [spec_l4Code.j0]
    cases b with
    | true => rfl
    | false =>
      simp only [Bool.false_eq_true, if_false]
      rw [lKind_eq (by omega), Option.bind_some, lKind_eq (by omega)]
      by_cases h1 : kindA a = 1
      · rw [if_pos h1, spec_l4Code.j1, if_pos rfl, if_pos (Or.inl h1)]
      rw [if_neg h1, Option.bind_some, spec_l4Code.j1]
      by_cases h2 : kindA (a + size - 1) = 1
      · rw [if_pos (show (kindA (a + size - 1) == 1) = true from by simp [h2]), if_pos (Or.inr h2)]
      rw [if_neg (show ¬ ((kindA (a + size - 1) == 1) = true) from by simp [h2]), if_neg (show ¬ (kindA a = 1 ∨ kindA (a + size - 1) = 1) from fun h => h.elim h1 h2)]
      by_cases h3 : kind = 2
      · rw [if_pos h3, lKind_eq (by omega), Option.bind_some, lKind_eq (by omega)]
        by_cases h4 : kindA a = 3
        · rw [if_pos h4, if_pos ⟨h3, Or.inl h4⟩]
        rw [if_neg h4, Option.bind_some]
        by_cases h5 : kindA (a + size - 1) = 3
        · rw [if_pos h5, if_pos ⟨h3, Or.inr h5⟩]
        · rw [if_neg h5, if_neg (show ¬ (kind = 2 ∧ (kindA a = 3 ∨ kindA (a + size - 1) = 3)) from fun h => h.2.elim h4 h5)]
      · rw [if_neg h3, if_neg (fun h => h3 h.1)]
  unfold spec_l4Code.f codeA
  rw [lastW hs ha, h0, h0, and_1]
  rcases hs with rfl | rfl
  · simp
  · by_cases h : a % 2 = 1 <;> simp [h]
theorem iCode_eq {k : Nat} (hk : 3 ≤ k) (kind : Int) {size a : Int} (hs : size = 1 ∨ size = 2) (ha : 0 ≤ a ∧ a ≤ 65535) : impl_codeOf.f k kind size a = some (codeA kind size a) := by
  obtain ⟨k, rfl⟩ : ∃ n, k = n + 2 := ⟨k - 2, by omega⟩
  have h0 : ∀ b : Bool, impl_codeOf.j0 (k + 2) kind size a b = some (if b = true then 2 else if kindA a = 1 ∨ kindA (a + size - 1) = 1 then 1 else if kind = 2 ∧ (kindA a = 3 ∨ kindA (a + size - 1) = 3) then 3 else 0) := by
    intro b
    rw [impl_codeOf.j0]
    cases b with
    | true => rfl
    | false =>
      simp only [Bool.false_eq_true, if_false]
      rw [iKindOf_eq (by omega), Option.bind_some, lastW hs ha, iKindOf_eq (by omega), Option.bind_some]
      have hj : ∀ c : Bool, impl_codeOf.j1 (k + 1) kind (kindA a) (kindA (a + size - 1)) c = some (if c = true then 1 else if kind = 2 ∧ (kindA a = 3 ∨ kindA (a + size - 1) = 3) then 3 else 0) := by
        intro c
        rw [impl_codeOf.j1]
        cases c with
        | true => rfl
        | false =>
          simp only [Bool.false_eq_true, if_false]
          by_cases h3 : kind = 2
          · rw [if_pos h3]
            by_cases h4 : kindA a = 3
            · rw [if_pos h4, if_pos ⟨h3, Or.inl h4⟩]
            rw [if_neg h4]
            by_cases h5 : kindA (a + size - 1) = 3
            · rw [if_pos h5, if_pos ⟨h3, Or.inr h5⟩]
            · rw [if_neg h5, if_neg (show ¬ (kind = 2 ∧ (kindA a = 3 ∨ kindA (a + size - 1) = 3)) from fun h => h.2.elim h4 h5)]
          · rw [if_neg h3, if_neg (fun h => h3 h.1)]
      by_cases h1 : kindA a = 1
      · rw [if_pos h1, hj, if_pos rfl, if_pos (Or.inl h1)]
      rw [if_neg h1, hj]
      by_cases h2 : kindA (a + size - 1) = 1
      · rw [if_pos (show (kindA (a + size - 1) == 1) = true from by simp [h2]), if_pos (Or.inr h2)]
      · rw [if_neg (show ¬ ((kindA (a + size - 1) == 1) = true) from by simp [h2]), if_neg (show ¬ (kindA a = 1 ∨ kindA (a + size - 1) = 1) from fun h => h.elim h1 h2)]
  unfold impl_codeOf.f codeA
  rw [h0, h0]
  have ht : Int.tmod a 2 = a % 2 := Int.tmod_eq_emod_of_nonneg ha.1
  rw [ht]
  rcases hs with rfl | rfl
  · simp
  · by_cases h : a % 2 = 1 <;> simp [h]
theorem codeA_ok {kind size a : Int} (hs : size = 1 ∨ size = 2) (h : codeA kind size a = 0) (ha : 0 ≤ a) : a < 512 ∧ a + size - 1 < 512 := by
  unfold codeA at h
  split at h
  · exact absurd h (by decide)
  split at h
  · exact absurd h (by decide)
  · rename_i h1 h2
    have h3 : ¬ kindA a = 1 := fun e => h2 (Or.inl e)
    have h4 : ¬ kindA (a + size - 1) = 1 := fun e => h2 (Or.inr e)
    unfold kindA at h3 h4
    split at h3
    · exact absurd rfl h3
    split at h4
    · exact absurd rfl h4
    omega
theorem goodCpu_sizes {l0 l1 l8 : List Int} {l9 : List S115} {a2 a3 a4 a5 : Int} {a10 a11 : Bool} (h : goodCpu l0 l1 a2 a3 a4 a5 l8 l9 a10 a11 = true) : l1.length = 4 ∧ l8.length = 512 ∧ l9.length ≤ 400 := by
  unfold goodCpu goodRegs goodBus at h
  simp only [Bool.and_eq_true, beq_iff_eq, decide_eq_true_eq] at h
  exact ⟨by omega, by omega, by omega⟩
theorem goodCpu_facts {l0 l1 l8 : List Int} {l9 : List S115} {a2 a3 a4 a5 : Int} {a10 a11 : Bool} (h : goodCpu l0 l1 a2 a3 a4 a5 l8 l9 a10 a11 = true) : (0 ≤ rd l1 3 ∧ rd l1 3 ≤ 65535) ∧ ∀ i : Int, 0 ≤ i → i < (l8.length : Int) → 0 ≤ rd l8 i ∧ rd l8 i ≤ 255 := by
  have hz := goodCpu_sizes h
  unfold goodCpu goodRegs goodBus at h
  simp only [Bool.and_eq_true] at h
  have h1 := List.all_eq_true.mp h.1.2.1.1
  have h8 := List.all_eq_true.mp h.2.1.2.2.1
  refine ⟨?_, fun i hi0 hi1 => ?_⟩
  · have hl : (3 : Nat) < l1.length := by omega
    have e : rd l1 3 = l1[3] := rdI hl
    rw [e]
    have := h1 _ (List.getElem_mem hl)
    simpa [isW] using this
  · obtain ⟨n, rfl⟩ : ∃ n : Nat, i = (n : Int) := ⟨i.toNat, by omega⟩
    have hl : n < l8.length := by omega
    rw [rdI hl]
    have := h8 _ (List.getElem_mem hl)
    simpa [isBy] using this
theorem or_zero {x : Int} (h : 0 ≤ x ∧ x ≤ 255) : bits .or .i64 0 x = x := by
  obtain ⟨n, rfl⟩ : ∃ n : Nat, x = (n : Int) := ⟨x.toNat, by omega⟩
  have := or_nat 0 n (by omega) (by omega)
  rw [show ((0 : Nat) : Int) = 0 from rfl] at this
  rw [this, Nat.zero_or]
theorem dec_eq {k : Nat} (hk : 3 ≤ k) (pc word next n : Int) : ∃ x1 x2 x3 x4 x5 x6 x7 m f1 f2 f4 g2 g4 : Int, decO k pc word next n = some (x1, x2, x3, x4, x5, x6, x7, m, f1, g2, 0, g4, false) ∧ idecO k pc word next n = some (x1, x2, x3, x4, x5, x6, x7, m, f1, f2, 0, f4, false) ∧ (if f1 = 0 then 0 else g2) = f2 ∧ (if f1 = 0 then 0 else g4) = f4 := by
  obtain ⟨k, rfl⟩ : ∃ n, k = n + 3 := ⟨k - 3, by omega⟩
  unfold decO idecO
  rw [lDecode_eq, iDecode_eq]
  simp only [Option.bind_some, lGoodIns_eq, iGoodIns_eq]
  generalize goodIns _ _ _ _ _ _ _ = b
  cases b
  case true => exact ⟨_, _, _, _, _, _, _, n, 0, 0, 0, pc, word, rfl, rfl, rfl, rfl⟩
  case false => exact ⟨0, 0, 0, 0, 0, 0, 0, 0, 4, pc, word, pc, word, rfl, rfl, rfl, rfl⟩
theorem fetch_eq {k : Nat} (hk : 3 ≤ k) {l8 : List Int} (h8 : l8.length = 512) (hb8 : ∀ i : Int, 0 ≤ i → i < (l8.length : Int) → 0 ≤ rd l8 i ∧ rd l8 i ≤ 255) {pc : Int} (hp : 0 ≤ pc ∧ pc ≤ 65535) : ∃ x1 x2 x3 x4 x5 x6 x7 m f1 f2 f3 f4 g2 g4 : Int, fetchO k pc l8 = some (x1, x2, x3, x4, x5, x6, x7, m, f1, g2, f3, g4, false) ∧ ifetchO k pc l8 = some (x1, x2, x3, x4, x5, x6, x7, m, f1, f2, f3, f4, false) ∧ (if f1 = 0 then 0 else g2) = f2 ∧ (if f1 = 0 then 0 else g4) = f4 := by
  have hv : ∀ a : Int, 0 ≤ a ∧ a ≤ 65535 → codeA 3 2 a = 0 → tchV 3 0 0 a l8 = ichV a l8 := fun a ha hc => by
    have hb := codeA_ok (Or.inr rfl) hc ha.1
    unfold tchV; rw [if_neg (by decide), if_pos rfl, or_zero (hb8 a ha.1 (by omega))]
  have hpre : ∀ a : Int, 0 ≤ a ∧ a ≤ 65535 → ((0 ≤ a ∧ a ≤ 65535) ∧ (codeA 3 2 a = 0 → a + 1 < (l8.length : Int))) := fun a ha => ⟨ha, fun hc => by have := codeA_ok (Or.inr rfl) hc ha.1; omega⟩
  have hd : ∀ e : Int, ¬ (if e = 2 then (3 : Int) else 2) = 0 := fun e => by split <;> decide
  have hn : 0 ≤ nextAt pc ∧ nextAt pc ≤ 65535 := by unfold nextAt; rw [and_65535]; omega
  have hni : inextAt pc = nextAt pc := rfl
  unfold fetchO ifetchO
  rw [hni, lCode_eq (by omega) 3 (Or.inr rfl) hp, iCode_eq (by omega) 3 (Or.inr rfl) hp, Option.bind_some, Option.bind_some, if_pos (hpre pc hp), if_pos (hpre pc hp)]
  by_cases hc : codeA 3 2 pc = 0
  · rw [if_pos hc, if_pos hc, hv pc hp hc, lLong_eq, iLong_eq, Option.bind_some, Option.bind_some]
    by_cases h2 : longB (ichV pc l8) = 2
    · rw [if_pos h2, if_pos h2, lCode_eq (by omega) 3 (Or.inr rfl) hn, iCode_eq (by omega) 3 (Or.inr rfl) hn, Option.bind_some, Option.bind_some, if_pos (hpre _ hn), if_pos (hpre _ hn)]
      by_cases hc2 : codeA 3 2 (nextAt pc) = 0
      · rw [if_pos hc2, if_pos hc2, hv _ hn hc2]
        obtain ⟨x1, x2, x3, x4, x5, x6, x7, m, f1, f2, f4, g2, g4, e1, e2, e3, e4⟩ := dec_eq hk pc (ichV pc l8) (ichV (nextAt pc) l8) (longB (ichV pc l8))
        exact ⟨x1, x2, x3, x4, x5, x6, x7, m, f1, f2, 0, f4, g2, g4, e1, e2, e3, e4⟩
      · rw [if_neg hc2, if_neg hc2]
        exact ⟨_, _, _, _, _, _, _, _, _, _, _, _, _, _, rfl, rfl, if_neg (hd _), if_neg (hd _)⟩
    · rw [if_neg h2, if_neg h2]
      obtain ⟨x1, x2, x3, x4, x5, x6, x7, m, f1, f2, f4, g2, g4, e1, e2, e3, e4⟩ := dec_eq hk pc (ichV pc l8) 0 (longB (ichV pc l8))
      exact ⟨x1, x2, x3, x4, x5, x6, x7, m, f1, f2, 0, f4, g2, g4, e1, e2, e3, e4⟩
  · rw [if_neg hc, if_neg hc]
    exact ⟨_, _, _, _, _, _, _, _, _, _, _, _, _, _, rfl, rfl, if_neg (hd _), if_neg (hd _)⟩
set_option maxRecDepth 100000 in
theorem FnExactFetchIns : ∀ (l0_0 : (List Int)) (l0_1 : (List Int)) (a0_2 : Int) (a0_3 : Int) (a0_4 : Int) (a0_5 : Int) (a0_6 : Bool) (a0_7 : Bool) (l0_8 : (List Int)) (l0_9 : (List S120)) (a0_10 : Bool) (a0_11 : Bool), l0_0.length ≤ 9223372036854775807 → l0_1.length ≤ 9223372036854775807 → (Lit.int .i64 a0_2).wf = true → (Lit.int .i64 a0_3).wf = true → (Lit.int .i64 a0_4).wf = true → (Lit.int .i64 a0_5).wf = true → l0_8.length ≤ 9223372036854775807 → l0_9.length ≤ 9223372036854775807 → ∃ k, laws_FnExactFetchIns.f k l0_0 l0_1 a0_2 a0_3 a0_4 a0_5 a0_6 a0_7 l0_8 l0_9 a0_10 a0_11 = some true := by
  intro l0 l1 a2 a3 a4 a5 a6 a7 l8 l9 a10 a11 h0 h1 _ _ _ _ h8 h9
  obtain ⟨r, hr, hc⟩ := szCpu_eq l0 l1 a2 a3 a4 a5 a6 a7 l8 l9 a10 a11 1048576 (by omega) h0 h1 h8 h9
  rcases hc with hc | ⟨p, _, s0, s1, s8, s9⟩
  · refine ⟨0, ?_⟩
    unfold laws_FnExactFetchIns.f
    rw [hr, Option.bind_some, if_pos hc]
    try rw [Option.bind_some, if_pos (by omega)]
  · refine ⟨4194304, ?_⟩
    have e9 : (l9.map convA).length = l9.length := by simp
    have f0 : Fits 4194304 l0.length := ⟨s0, by omega⟩
    have f1 : Fits 4194304 l1.length := ⟨s1, by omega⟩
    have f8 : Fits 4194304 l8.length := ⟨s8, by omega⟩
    have f9 : Fits 4194304 l9.length := ⟨s9, by omega⟩
    have f9' : Fits 4194304 (l9.map convA).length := ⟨by omega, by omega⟩
    have hs : ∃ x1 x2 x3 x4 x5 x6 x7 m f1 f2 f3 f4 : Int, ∃ b : Bool,
        spec_FetchIns.f 4194304 l0 l1 a2 a3 a4 a5 a6 a7 l8 (l9.map convA) a10 a11 = some (x1, x2, x3, x4, x5, x6, x7, m, f1, f2, f3, f4, false, b) ∧
        impl_FetchIns.f 4194304 l0 l1 a2 a3 a4 a5 a6 a7 l8 (l9.map convA) a10 a11 = some (x1, x2, x3, x4, x5, x6, x7, m, f1, f2, f3, f4, false, b) := by
      have hL := lCpu_eq f0 f1 (l9 := l9.map convA) ⟨s8, by omega, by omega⟩ a2 a3 a4 a5 a6 a7 a10 a11
      have hI := iCpu_eq f0 f1 f8 f9' a2 a3 a4 a5 a6 a7 a10 a11
      unfold spec_FetchIns.f impl_FetchIns.f
      rw [hL, hI, Option.bind_some, Option.bind_some]
      cases hg : goodCpu l0 l1 a2 a3 a4 a5 l8 (l9.map convA) a10 a11 with
      | false => exact ⟨0, 0, 0, 0, 0, 0, 0, 0, 0, 0, 0, 0, false, rfl, rfl⟩
      | true =>
        obtain ⟨g1, g8, g9⟩ := goodCpu_sizes hg
        obtain ⟨ha, hb8⟩ := goodCpu_facts hg
        have hp : 0 ≤ a3 ∧ a3 ≤ 65535 := by
          unfold goodCpu goodRegs at hg
          simp only [Bool.and_eq_true] at hg
          simpa [isW] using hg.1.2.2.2.1
        obtain ⟨x1, x2, x3, x4, x5, x6, x7, m, f1, f2, f3, f4, g2, g4, e1, e2, e3, e4⟩ := fetch_eq (k := 4194304) (by omega) g8 hb8 hp
        rw [if_pos rfl, if_pos rfl, lOwn_eq s0 (by omega) (by omega) (by omega), iOwn_eq s0 (by omega) (by omega) (by omega), Option.bind_some, Option.bind_some]
        dsimp only
        rw [if_pos (by omega), if_pos (by omega), e1, e2, Option.bind_some, Option.bind_some]
        dsimp only
        rw [e3, e4]
        exact ⟨_, _, _, _, _, _, _, _, _, _, _, _, _, rfl, rfl⟩
    obtain ⟨x1, x2, x3, x4, x5, x6, x7, m, q1, q2, q3, q4, b, e1, e2⟩ := hs
    unfold laws_FnExactFetchIns.f
    rw [hr, Option.bind_some, if_neg (by omega), toCpu_eq f0 f1 f8 f9]
    simp only [Option.bind_some]
    rw [e1]
    simp only [Option.bind_some]
    rw [e2]
    simp only [Option.bind_some]
    rw [eqCpu_eq f0 f1 f8 f9']
    simp [laws_eqIns.f, laws_eqOperand.f, laws_eqFault.f]

end Go.Proofs.Ythlhapafipikmaa.Pure
