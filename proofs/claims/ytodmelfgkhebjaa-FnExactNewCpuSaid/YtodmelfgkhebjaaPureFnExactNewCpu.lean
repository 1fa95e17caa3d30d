/- The law FnExactNewCpu as a plain function answers true for all arguments (numbers of 64 bits, lists of at most 2^63 - 1 elements). No other condition. -/
import Derived.Test.YtodmelfgkhebjaaWx11
import Derived.Test.YtodmelfgkhebjaaMath
set_option linter.unusedVariables false
set_option linter.unusedSimpArgs false
namespace Go.Proofs.Ytodmelfgkhebjaa.Pure
open Go.RowKit Go.Proofs.Ytodmelfgkhebjaa.W Go.Proofs.YtodmelfgkhebjaaW.PrintWords Go.Proofs.YtodmelfgkhebjaaW.PrintLast Go.Proofs.Ytodmelfgkhebjaa.Math

theorem l1In_eq (a b c : Int) : spec_l1In.f a b c = some (decide (b ≤ a ∧ a ≤ c)) := by
  unfold spec_l1In.f
  by_cases h : b ≤ a <;> simp [h]
theorem within_eq (a b c : Int) : impl_within.f a b c = some (decide (b ≤ a ∧ a ≤ c)) := by
  unfold impl_within.f
  by_cases h : b ≤ a <;> simp [h]
theorem l6Word_eq (a : Int) : spec_l6Word.f a = some (decide (0 ≤ a ∧ a ≤ 65535)) := by
  unfold spec_l6Word.f
  rw [l1In_eq]
  rfl
theorem isWord_eq (a : Int) : impl_isWord.f a = some (decide (0 ≤ a ∧ a ≤ 65535)) := by
  unfold impl_isWord.f
  rw [within_eq]
  rfl
theorem stepNat {i n : Nat} (h : i < n) (hn : n ≤ 1048576) : wrap64 ((i : Int) + 1) = ((i + 1 : Nat) : Int) := by
  rw [wrap64_id (by omega) (by omega)]
  omega
theorem rdI {l : List Int} {i : Nat} (h : i < l.length) : rd l (i : Int) = l[i] := by
  simp [rd, List.getElem?_eq_getElem h]
theorem setMap {α β : Type} (f : α → β) (z : β) (l : List α) (i m : Nat) (h : i + (m + 1) = l.length) :
    ((l.take i).map f ++ List.replicate (m + 1) z).set i (f (l[i]'(by omega))) = (l.take (i + 1)).map f ++ List.replicate m z := by
  have hi : i < l.length := by omega
  rw [List.set_append_right _ _ (by simp; omega), List.take_succ_eq_append_getElem hi, List.map_append, List.append_assoc]
  congr 1
  have : i - ((l.take i).map f).length = 0 := by simp; omega
  rw [this, List.replicate_succ]
  rfl
/-- The four lists of a processor are short, and the rounds are enough for them. -/
def Fits (k : Nat) (n : Nat) : Prop := n ≤ 1048576 ∧ n < k
theorem eqInt_loop (l : List Int) (hl : l.length ≤ 1048576) : ∀ (m i k : Nat), i + m = l.length → m < k → laws_eqIntS.l0 k l l (i : Int) = some true
  | 0, i, k, h, hk => by
    obtain ⟨k, rfl⟩ : ∃ n, k = n + 1 := ⟨k - 1, by omega⟩
    rw [laws_eqIntS.l0, if_neg (by omega)]
  | m + 1, i, k, h, hk => by
    obtain ⟨k, rfl⟩ : ∃ n, k = n + 1 := ⟨k - 1, by omega⟩
    have hi : i < l.length := by omega
    rw [laws_eqIntS.l0, if_pos (by omega), if_pos (by omega), if_pos (by omega), if_pos rfl, stepNat hi hl]
    exact eqInt_loop l hl m (i + 1) k (by omega) (by omega)
theorem eqInt_eq {l : List Int} (hl : l.length ≤ 1048576) {k : Nat} (hk : l.length < k) : laws_eqIntS.f k l l = some true := by
  unfold laws_eqIntS.f
  rw [if_pos rfl]
  exact eqInt_loop l hl l.length 0 k (by omega) hk
theorem rdA {l : List S109} {i : Nat} (h : i < l.length) : rd_T109 l (i : Int) = l[i] := by
  simp [rd_T109, h]
theorem toInt_loop (l : List Int) (hl : l.length ≤ 1048576) : ∀ (m i k : Nat), i + m = l.length → m < k →
    laws_toIntS.l0 k l ((l.take i).map id ++ List.replicate m 0) (i : Int) = some l
  | 0, i, k, h, hk => by
    obtain ⟨k, rfl⟩ : ∃ n, k = n + 1 := ⟨k - 1, by omega⟩
    rw [laws_toIntS.l0, if_neg (by omega), List.take_of_length_le (by omega)]
    simp
  | m + 1, i, k, h, hk => by
    obtain ⟨k, rfl⟩ : ∃ n, k = n + 1 := ⟨k - 1, by omega⟩
    have hi : i < l.length := by omega
    rw [laws_toIntS.l0, if_pos (by omega), if_pos (by omega), rdI hi, if_pos (by simp; omega), stepNat hi hl, Int.toNat_natCast]
    have := setMap id (0 : Int) l i m h
    simp only [id] at this
    change laws_toIntS.l0 k l (((l.take i).map id ++ List.replicate (m + 1) 0).set i l[i]) ((i + 1 : Nat) : Int) = _
    rw [this]
    exact toInt_loop l hl m (i + 1) k (by omega) (by omega)
theorem toInt_eq {l : List Int} (hl : l.length ≤ 1048576) {k : Nat} (hk : l.length < k) : laws_toIntS.f k l = some l := by
  unfold laws_toIntS.f
  rw [if_pos (by omega), if_pos (by rw [Int.toNat_natCast]; omega)]
  have := toInt_loop l hl l.length 0 k (by omega) hk
  simpa using this
theorem eqAcc_loop (l : List S109) (hl : l.length ≤ 1048576) : ∀ (m i k : Nat), i + m = l.length → m < k → laws_eqAccessS.l0 k l l (i : Int) = some true
  | 0, i, k, h, hk => by
    obtain ⟨k, rfl⟩ : ∃ n, k = n + 1 := ⟨k - 1, by omega⟩
    rw [laws_eqAccessS.l0, if_neg (by omega)]
  | m + 1, i, k, h, hk => by
    obtain ⟨k, rfl⟩ : ∃ n, k = n + 1 := ⟨k - 1, by omega⟩
    have hi : i < l.length := by omega
    have hs : ∀ a b c d e, laws_eqAccess.f a b c d e a b c d e = some true := fun a b c d e => by simp [laws_eqAccess.f]
    rw [laws_eqAccessS.l0, if_pos (by omega), if_pos (by omega), if_pos (by omega), hs, Option.bind_some, if_pos rfl, stepNat hi hl]
    exact eqAcc_loop l hl m (i + 1) k (by omega) (by omega)
theorem eqAcc_eq {l : List S109} (hl : l.length ≤ 1048576) {k : Nat} (hk : l.length < k) : laws_eqAccessS.f k l l = some true := by
  unfold laws_eqAccessS.f
  rw [if_pos rfl]
  exact eqAcc_loop l hl l.length 0 k (by omega) hk
theorem eqCpu_eq {k : Nat} {l0 l1 l8 : List Int} {l9 : List S109} (h0 : Fits k l0.length) (h1 : Fits k l1.length) (h8 : Fits k l8.length) (h9 : Fits k l9.length) (a2 a3 a4 a5 : Int) (a6 a7 a10 a11 : Bool) :
    laws_eqCpu.f k l0 l1 a2 a3 a4 a5 a6 a7 l8 l9 a10 a11 l0 l1 a2 a3 a4 a5 a6 a7 l8 l9 a10 a11 = some true := by
  unfold laws_eqCpu.f laws_eqRegs.f laws_eqBus.f
  rw [eqInt_eq h0.1 h0.2, eqInt_eq h1.1 h1.2, eqInt_eq h8.1 h8.2, eqAcc_eq h9.1 h9.2]
  simp
/-- What a byte is. -/
def isBy (x : Int) : Bool := decide (0 ≤ x ∧ x ≤ 255)
theorem lBytes_loop (l : List Int) (hl : l.length ≤ 1048576) : ∀ (m i k : Nat), i + m = l.length → m < k →
    spec_l4Bytes.l0 k l (l.length : Int) (i : Int) = some ((l.drop i).all isBy)
  | 0, i, k, h, hk => by
    obtain ⟨k, rfl⟩ : ∃ n, k = n + 1 := ⟨k - 1, by omega⟩
    rw [spec_l4Bytes.l0, if_neg (by omega), List.drop_of_length_le (by omega)]
    rfl
  | m + 1, i, k, h, hk => by
    obtain ⟨k, rfl⟩ : ∃ n, k = n + 1 := ⟨k - 1, by omega⟩
    have hi : i < l.length := by omega
    rw [spec_l4Bytes.l0, if_pos (by omega), if_pos (by omega), if_pos (by omega), rdI hi, l1In_eq, Option.bind_some, List.drop_eq_getElem_cons hi, List.all_cons, stepNat hi hl]
    change (if isBy l[i] = true then _ else _) = _
    cases isBy l[i] with
    | true =>
      rw [if_pos rfl, Bool.true_and]
      exact lBytes_loop l hl m (i + 1) k (by omega) (by omega)
    | false => rfl
theorem lBytes_eq {l : List Int} {k : Nat} (h : Fits k l.length) : spec_l4Bytes.f k l = some (l.all isBy) := by
  unfold spec_l4Bytes.f
  have := lBytes_loop l h.1 l.length 0 k (by omega) h.2
  simpa using this
theorem iBy_loop (l : List Int) (hl : l.length ≤ 1048576) : ∀ (m i k : Nat), i + m = l.length → m < k →
    ∃ r, slices_IndexFunc_121_g113.l0 k l (l.length : Int) (i : Int) = some r ∧ decide (r ≥ 0) = !(l.drop i).all isBy
  | 0, i, k, h, hk => by
    obtain ⟨k, rfl⟩ : ∃ n, k = n + 1 := ⟨k - 1, by omega⟩
    refine ⟨-1, ?_, ?_⟩
    · rw [slices_IndexFunc_121_g113.l0, if_neg (by omega)]
    · rw [List.drop_of_length_le (by omega)]
      rfl
  | m + 1, i, k, h, hk => by
    obtain ⟨k, rfl⟩ : ∃ n, k = n + 1 := ⟨k - 1, by omega⟩
    have hi : i < l.length := by omega
    rw [slices_IndexFunc_121_g113.l0, if_pos (by omega), if_pos (by omega), if_pos (by omega), rdI hi, impl_areBytes_1.f, within_eq, Option.bind_some, Option.bind_some, List.drop_eq_getElem_cons hi, List.all_cons, stepNat hi hl]
    change ∃ r, (if (!isBy l[i]) = true then _ else _) = some r ∧ _
    cases isBy l[i] with
    | true =>
      rw [if_neg (by simp), Bool.true_and]
      exact iBy_loop l hl m (i + 1) k (by omega) (by omega)
    | false => exact ⟨(i : Int), rfl, by simp⟩
theorem iBy_eq {l : List Int} {k : Nat} (h : Fits k l.length) : slices_ContainsFunc_95_g113.f k l = some (!l.all isBy) := by
  unfold slices_ContainsFunc_95_g113.f slices_IndexFunc_121_g113.f
  obtain ⟨r, h1, h2⟩ := iBy_loop l h.1 l.length 0 k (by omega) h.2
  rw [show ((0 : Nat) : Int) = 0 from rfl] at h1
  rw [h1, Option.bind_some, h2]
  rfl
/-- The numbers a, a + 1, .. -/
def upto (a : Int) : Nat → List Int
  | 0 => []
  | n + 1 => a :: upto (a + 1) n
theorem upto_length (a : Int) (n : Nat) : (upto a n).length = n := by
  induction n generalizing a with
  | zero => rfl
  | succ n ih => simp [upto, ih]
theorem rd_at (l : List Int) (i : Nat) (h : i < l.length) : rd l (i : Int) = l[i] := by
  simp [rd, List.getElem?_eq_getElem h]
theorem eqIntS_l0 (l : List Int) (hl : l.length ≤ 4611686018427387904) : ∀ (d k i : Nat), i + d = l.length → d < k → laws_eqIntS.l0 k l l (i : Int) = some true := by
  intro d
  induction d with
  | zero =>
    intro k i hi hk
    obtain ⟨k, rfl⟩ : ∃ m, k = m + 1 := ⟨k - 1, by omega⟩
    simp only [laws_eqIntS.l0]
    rw [if_neg (by omega)]
  | succ d ih =>
    intro k i hi hk
    obtain ⟨k, rfl⟩ : ∃ m, k = m + 1 := ⟨k - 1, by omega⟩
    simp only [laws_eqIntS.l0]
    rw [if_pos (by omega), if_pos (by omega), if_pos (by omega), if_pos trivial, wrap64_id (by omega) (by omega), show ((i : Int) + 1) = ((i + 1 : Nat) : Int) by omega]
    exact ih k (i + 1) (by omega) (by omega)
theorem eqIntS_self (l : List Int) (hl : l.length ≤ 4611686018427387904) (k : Nat) (hk : l.length < k) : laws_eqIntS.f k l l = some true := by
  unfold laws_eqIntS.f
  rw [if_pos rfl]
  exact eqIntS_l0 l hl l.length k 0 (by omega) hk
theorem markIntS_l0 (n : Nat) (hn : n ≤ 4611686018427387904) : ∀ (d k i : Nat) (a : Int) (x : List Int), x.length = n → i + d = n → d < k → 0 ≤ a → a ≤ 4611686018427387904 - (d : Int) →
    laws_markIntS.l0 k x a (i : Int) = some (a + (d : Int), x.take i ++ upto a d) := by
  intro d
  induction d with
  | zero =>
    intro k i a x hx hi hk _ _
    obtain ⟨k, rfl⟩ : ∃ m, k = m + 1 := ⟨k - 1, by omega⟩
    simp only [laws_markIntS.l0]
    rw [if_neg (by omega)]
    simp [upto, List.take_of_length_le (show x.length ≤ i by omega)]
  | succ d ih =>
    intro k i a x hx hi hk ha hb
    obtain ⟨k, rfl⟩ : ∃ m, k = m + 1 := ⟨k - 1, by omega⟩
    simp only [laws_markIntS.l0]
    rw [if_pos (by omega), if_pos (by omega), wrap64_id (n := a + 1) (by omega) (by omega), wrap64_id (by omega) (by omega)]
    have hset : (x.set i a).take (i + 1) = x.take i ++ [a] := by
      rw [List.take_succ_eq_append_getElem (by simp; omega), List.take_set, List.set_eq_of_length_le (by simp; omega)]
      simp
    have := ih k (i + 1) (a + 1) (x.set i a) (by simp [hx]) (by omega) (by omega) (by omega) (by omega)
    rw [hset] at this
    simp only [Int.toNat_natCast]
    rw [show ((i : Int) + 1) = ((i + 1 : Nat) : Int) by omega, this]
    simp [upto]
    omega
theorem markIntS_eq (x : List Int) (a : Int) (k : Nat) (hk : x.length < k) (ha : 0 ≤ a) (hb : a + (x.length : Int) ≤ 4611686018427387904) :
    laws_markIntS.f k x a = some (a + (x.length : Int), upto a x.length) := by
  unfold laws_markIntS.f
  have := markIntS_l0 x.length (by omega) x.length k 0 a x rfl (by omega) hk ha (by omega)
  simpa using this
theorem heldIntS_l0 (x : List Int) (hx : x.length ≤ 4611686018427387904) : ∀ (d k i : Nat) (a : Int), x.drop i = upto a d → i + d = x.length → d < k → 0 ≤ a → a ≤ 4611686018427387904 - (d : Int) →
    laws_heldIntS.l0 k x a (i : Int) = some (a + (d : Int)) := by
  intro d
  induction d with
  | zero =>
    intro k i a hd hi hk _ _
    obtain ⟨k, rfl⟩ : ∃ m, k = m + 1 := ⟨k - 1, by omega⟩
    simp only [laws_heldIntS.l0]
    rw [if_neg (by omega)]
    simp
  | succ d ih =>
    intro k i a hd hi hk ha hb
    obtain ⟨k, rfl⟩ : ∃ m, k = m + 1 := ⟨k - 1, by omega⟩
    have hlt : i < x.length := by omega
    rw [List.drop_eq_getElem_cons hlt] at hd
    simp only [upto, List.cons.injEq] at hd
    simp only [laws_heldIntS.l0]
    rw [if_pos (by omega), if_pos (by omega), wrap64_id (n := a + 1) (by omega) (by omega), wrap64_id (by omega) (by omega), rd_at x i hlt, if_pos hd.1]
    have := ih k (i + 1) (a + 1) hd.2 (by omega) (by omega) (by omega) (by omega)
    rw [show ((i : Int) + 1) = ((i + 1 : Nat) : Int) by omega, this]
    congr 1
    omega
theorem heldIntS_upto (n : Nat) (a : Int) (k : Nat) (hk : n < k) (ha : 0 ≤ a) (hb : a + (n : Int) ≤ 4611686018427387904) :
    laws_heldIntS.f k (upto a n) a = some (a + (n : Int)) := by
  unfold laws_heldIntS.f
  exact heldIntS_l0 (upto a n) (by rw [upto_length]; omega) n k 0 a rfl (by rw [upto_length]; omega) hk ha (by omega)
def uptoA (a : Int) : Nat → List S109
  | 0 => []
  | n + 1 => ⟨a, a + 1, a + 1 + 1, a + 1 + 1 + 1, a + 1 + 1 + 1 + 1⟩ :: uptoA (a + 5) n
theorem uptoA_length (a : Int) (n : Nat) : (uptoA a n).length = n := by
  induction n generalizing a with
  | zero => rfl
  | succ n ih => simp [uptoA, ih]
theorem rdSetA {x : List S109} {i : Nat} (e : S109) (h : i < x.length) : rd_T109 (x.set i e) (i : Int) = e := by
  rw [rdA (by simpa using h)]
  simp
theorem w5 {a : Int} (h0 : 0 ≤ a) (h1 : a ≤ 4611686018427387904) : wrap64 (a + 1) = a + 1 := wrap64_id (by omega) (by omega)
theorem markA_l0 (n : Nat) (hn : n ≤ 1048576) : ∀ (d k i : Nat) (a : Int) (x : List S109), x.length = n → i + d = n → d < k → 0 ≤ a → a + 5 * (d : Int) ≤ 4611686018427387904 →
    laws_markAccessS.l0 k x a (i : Int) = some (a + 5 * (d : Int), x.take i ++ uptoA a d) := by
  intro d
  induction d with
  | zero =>
    intro k i a x hx hi hk _ _
    obtain ⟨k, rfl⟩ : ∃ m, k = m + 1 := ⟨k - 1, by omega⟩
    rw [laws_markAccessS.l0, if_neg (by omega)]
    simp [uptoA, List.take_of_length_le (show x.length ≤ i by omega)]
  | succ d ih =>
    intro k i a x hx hi hk ha hb
    obtain ⟨k, rfl⟩ : ∃ m, k = m + 1 := ⟨k - 1, by omega⟩
    have hlt : i < x.length := by omega
    rw [laws_markAccessS.l0, if_pos (by omega), if_pos (by omega)]
    simp only [Option.bind_some, Int.toNat_natCast, List.set_set, rdSetA _ hlt]
    rw [w5 ha (by omega), w5 (a := a + 1) (by omega) (by omega), w5 (a := a + 1 + 1) (by omega) (by omega), w5 (a := a + 1 + 1 + 1) (by omega) (by omega), w5 (a := a + 1 + 1 + 1 + 1) (by omega) (by omega), stepNat (n := n) (by omega) hn]
    have hset : ∀ e : S109, (x.set i e).take (i + 1) = x.take i ++ [e] := by
      intro e
      rw [List.take_succ_eq_append_getElem (by simp; omega), List.take_set, List.set_eq_of_length_le (by simp; omega)]
      simp
    have := ih k (i + 1) (a + 1 + 1 + 1 + 1 + 1) (x.set i ⟨a, a + 1, a + 1 + 1, a + 1 + 1 + 1, a + 1 + 1 + 1 + 1⟩) (by simp [hx]) (by omega) (by omega) (by omega) (by omega)
    rw [this, hset, show a + 1 + 1 + 1 + 1 + 1 = a + 5 from by omega]
    simp [uptoA]
    omega
theorem markA_eq (x : List S109) (hx : x.length ≤ 1048576) (a : Int) (k : Nat) (hk : x.length < k) (ha : 0 ≤ a) (hb : a + 5 * (x.length : Int) ≤ 4611686018427387904) :
    laws_markAccessS.f k x a = some (a + 5 * (x.length : Int), uptoA a x.length) := by
  unfold laws_markAccessS.f
  have := markA_l0 x.length hx x.length k 0 a x rfl (by omega) hk ha hb
  simpa using this
theorem heldA_l0 (x : List S109) (hx : x.length ≤ 1048576) : ∀ (d k i : Nat) (a : Int), x.drop i = uptoA a d → i + d = x.length → d < k → 0 ≤ a → a + 5 * (d : Int) ≤ 4611686018427387904 →
    laws_heldAccessS.l0 k x a (i : Int) = some (a + 5 * (d : Int)) := by
  intro d
  induction d with
  | zero =>
    intro k i a hd hi hk _ _
    obtain ⟨k, rfl⟩ : ∃ m, k = m + 1 := ⟨k - 1, by omega⟩
    rw [laws_heldAccessS.l0, if_neg (by omega)]
    simp
  | succ d ih =>
    intro k i a hd hi hk ha hb
    obtain ⟨k, rfl⟩ : ∃ m, k = m + 1 := ⟨k - 1, by omega⟩
    have hlt : i < x.length := by omega
    rw [List.drop_eq_getElem_cons hlt] at hd
    simp only [uptoA, List.cons.injEq] at hd
    rw [laws_heldAccessS.l0, if_pos (by omega), if_pos (by omega), rdA hlt, hd.1]
    simp only
    rw [w5 ha (by omega), w5 (a := a + 1) (by omega) (by omega), w5 (a := a + 1 + 1) (by omega) (by omega), w5 (a := a + 1 + 1 + 1) (by omega) (by omega), w5 (a := a + 1 + 1 + 1 + 1) (by omega) (by omega), stepNat hlt hx]
    simp only [if_true]
    rw [show a + 1 + 1 + 1 + 1 + 1 = a + 5 from by omega, ih k (i + 1) (a + 5) hd.2 (by omega) (by omega) (by omega) (by omega)]
    congr 1
    omega
theorem heldA_eq (n : Nat) (hn : n ≤ 1048576) (a : Int) (k : Nat) (hk : n < k) (ha : 0 ≤ a) (hb : a + 5 * (n : Int) ≤ 4611686018427387904) :
    laws_heldAccessS.f k (uptoA a n) a = some (a + 5 * (n : Int)) := by
  unfold laws_heldAccessS.f
  exact heldA_l0 (uptoA a n) (by rw [uptoA_length]; omega) n k 0 a rfl (by rw [uptoA_length]; omega) hk ha hb
theorem markCpu_eq {k : Nat} {l0 l1 l8 : List Int} {l9 : List S109} (h0 : Fits k l0.length) (h1 : Fits k l1.length) (h8 : Fits k l8.length) (h9 : Fits k l9.length) (a2 a3 a4 a5 : Int) (a6 a7 a10 a11 : Bool) :
    laws_markCpu.f k l0 l1 a2 a3 a4 a5 a6 a7 l8 l9 a10 a11 1 = some (1 + (l0.length : Int) + (l1.length : Int) + (l8.length : Int) + 5 * (l9.length : Int), upto 1 l0.length, upto (1 + (l0.length : Int)) l1.length, upto (1 + (l0.length : Int) + (l1.length : Int)) l8.length, uptoA (1 + (l0.length : Int) + (l1.length : Int) + (l8.length : Int)) l9.length) := by
  have b0 := h0.1
  have b1 := h1.1
  have b8 := h8.1
  have b9 := h9.1
  unfold laws_markCpu.f laws_markRegs.f laws_markBus.f
  rw [markIntS_eq l0 1 k h0.2 (by omega) (by omega), Option.bind_some]
  simp only
  rw [markIntS_eq l1 _ k h1.2 (by omega) (by omega), Option.bind_some]
  simp only [Option.bind_some]
  rw [markIntS_eq l8 _ k h8.2 (by omega) (by omega), Option.bind_some]
  simp only
  rw [markA_eq l9 h9.1 _ k h9.2 (by omega) (by omega), Option.bind_some]
  simp only [Option.bind_some]
theorem heldCpu_eq {k n0 n1 n8 n9 : Nat} (h0 : Fits k n0) (h1 : Fits k n1) (h8 : Fits k n8) (h9 : Fits k n9) (a2 a3 a4 a5 : Int) (a6 a7 a10 a11 : Bool) :
    laws_heldCpu.f k (upto 1 n0) (upto (1 + (n0 : Int)) n1) a2 a3 a4 a5 a6 a7 (upto (1 + (n0 : Int) + (n1 : Int)) n8) (uptoA (1 + (n0 : Int) + (n1 : Int) + (n8 : Int)) n9) a10 a11 1 = some (1 + (n0 : Int) + (n1 : Int) + (n8 : Int) + 5 * (n9 : Int)) := by
  have b0 := h0.1
  have b1 := h1.1
  have b8 := h8.1
  have b9 := h9.1
  unfold laws_heldCpu.f laws_heldRegs.f laws_heldBus.f
  rw [heldIntS_upto n0 1 k h0.2 (by omega) (by omega), Option.bind_some, if_neg (by omega), heldIntS_upto n1 _ k h1.2 (by omega) (by omega), Option.bind_some, if_neg (by omega), Option.bind_some, if_neg (by omega), heldIntS_upto n8 _ k h8.2 (by omega) (by omega), Option.bind_some, if_neg (by omega), heldA_eq n9 h9.1 _ k h9.2 (by omega) (by omega), Option.bind_some, if_neg (by omega), Option.bind_some, if_neg (by omega)]
/-- A row's first numbers are laid over its zeros. -/
theorem nb_loop (l0 : List Int) (hl : l0.length ≤ 384) : ∀ (m i k : Nat), i + m = l0.length → m + 2 < k →
    spec_NewBus.l0 k ([] : List Int) l0 (l0.length : Int) (i : Int) (l0.take i ++ List.replicate (512 - i) 0) = some (l0 ++ List.replicate (512 - l0.length) 0, [], true)
  | 0, i, k, h, hk => by
    obtain ⟨k, rfl⟩ : ∃ n, k = n + 1 + 1 := ⟨k - 2, by omega⟩
    have e : i = l0.length := by omega
    subst e
    rw [spec_NewBus.l0, if_neg (by omega), spec_NewBus.l1, if_neg (by simp), List.take_of_length_le (Nat.le_refl _)]
  | m + 1, i, k, h, hk => by
    obtain ⟨k, rfl⟩ : ∃ n, k = n + 1 := ⟨k - 1, by omega⟩
    have hi : i < l0.length := by omega
    have hlen : (l0.take i ++ List.replicate (512 - i) (0 : Int)).length = 512 := by
      rw [List.length_append, List.length_take, List.length_replicate]; omega
    rw [spec_NewBus.l0, if_pos (by omega), if_pos (by omega), if_pos (by omega), if_pos (by rw [hlen]; omega), stepNat hi (by omega), Int.toNat_natCast, rdI hi]
    have e : (l0.take i ++ List.replicate (512 - i) (0 : Int)).set i l0[i] = l0.take (i + 1) ++ List.replicate (512 - (i + 1)) 0 := by
      have hm : min i l0.length = i := by omega
      rw [show 512 - i = (512 - (i + 1)) + 1 from by omega, List.set_append, List.length_take, hm, if_neg (Nat.lt_irrefl i), Nat.sub_self, List.replicate_succ, List.set_cons_zero, List.take_succ_eq_append_getElem hi, List.append_assoc]
      rfl
    rw [e]
    exact nb_loop l0 hl m (i + 1) k (by omega) (by omega)
theorem areBy_eq {l : List Int} {k : Nat} (h : Fits k l.length) (n : Int) : impl_areBytes.f k l n = some (decide ((l.length : Int) ≤ n) && l.all isBy) := by
  unfold impl_areBytes.f
  by_cases hc : (l.length : Int) ≤ n
  · rw [if_pos hc, iBy_eq h, Option.bind_some]; simp [hc]
  · rw [if_neg hc]; simp [hc]
theorem lNewBus {l : List Int} {k : Nat} (h : l.length ≤ 1048576 ∧ l.length + 4 < k) : spec_NewBus.f k l [] = some (if decide ((l.length : Int) ≤ 384) && l.all isBy then (l ++ List.replicate (512 - l.length) 0, [], true) else ([], [], false)) := by
  obtain ⟨k, rfl⟩ : ∃ n, k = n + 1 := ⟨k - 1, by omega⟩
  unfold spec_NewBus.f
  rw [lBytes_eq ⟨h.1, by omega⟩, lBytes_eq (l := []) ⟨by simp, by simp⟩, Option.bind_some, Option.bind_some]
  cases l.all isBy with
  | false => rw [if_neg (by simp), spec_NewBus.j0, if_pos rfl, if_neg (by simp)]
  | true =>
    rw [if_pos rfl, if_pos (by rfl)]
    by_cases hc : (l.length : Int) ≤ 384
    · rw [if_neg (by omega), spec_NewBus.j0, if_neg (by simp), if_pos (by simp [hc])]
      have h0 := nb_loop l (by omega) l.length 0 k (by omega) (by omega)
      rw [List.take_zero, List.nil_append] at h0
      exact h0
    · rw [if_pos (by omega), spec_NewBus.j0, if_pos rfl, if_neg (by simp [hc])]
theorem iNewBus {l : List Int} {k : Nat} (h : l.length ≤ 1048576 ∧ l.length + 4 < k) : impl_NewBus.f k l [] = some (if decide ((l.length : Int) ≤ 384) && l.all isBy then (l ++ List.replicate (512 - l.length) 0, [], true) else ([], [], false)) := by
  unfold impl_NewBus.f
  rw [areBy_eq ⟨h.1, by omega⟩, areBy_eq (l := []) ⟨by simp, by simp; omega⟩, Option.bind_some, Option.bind_some]
  by_cases hc : (l.length : Int) ≤ 384 <;> cases l.all isBy
  · simp
  · rw [if_pos (by simp [hc]), if_pos (by simp), if_pos ⟨rfl, by omega⟩, if_pos (by simp [hc])]
  · simp
  · rw [if_neg (by simp [hc]), if_neg (by simp [hc])]
theorem FnExactNewCpu : ∀ (l0 : (List Int)) (a1 : Int), l0.length ≤ 9223372036854775807 → (Lit.int .i64 a1).wf = true → ∃ k, laws_FnExactNewCpu.f k l0 a1 = some true := by
  intro l a h _
  refine ⟨4194304, ?_⟩
  unfold laws_FnExactNewCpu.f
  by_cases hl : (l.length : Int) > 1048576
  · rw [if_pos hl]
  rw [if_neg hl]
  have hl' : l.length ≤ 1048576 := by omega
  have ht := toInt_eq hl' (k := 4194304) (by omega)
  have hs : ∃ (m0 m1 : List Int) (b2 b3 b4 b5 : Int) (b6 b7 : Bool) (m8 : List Int) (m9 : List S109) (b10 b11 b12 : Bool), (Fits 4194304 m0.length ∧ Fits 4194304 m1.length ∧ Fits 4194304 m8.length ∧ Fits 4194304 m9.length) ∧
      spec_NewCpu.f 4194304 l a = some (m0, m1, b2, b3, b4, b5, b6, b7, m8, m9, b10, b11, b12) ∧ impl_NewCpu.f 4194304 l a = some (m0, m1, b2, b3, b4, b5, b6, b7, m8, m9, b10, b11, b12) := by
    unfold spec_NewCpu.f impl_NewCpu.f
    rw [lNewBus ⟨hl', by omega⟩, iNewBus ⟨hl', by omega⟩, Option.bind_some, Option.bind_some]
    have hn : Fits 4194304 ([] : List Int).length := ⟨by simp, by simp⟩
    have hnA : Fits 4194304 ([] : List S109).length := ⟨by simp, by simp⟩
    by_cases hc : (l.length : Int) ≤ 384
    · rw [decide_eq_true hc, Bool.true_and]
      cases l.all isBy with
      | false => exact ⟨[], [], 0, 0, 0, 0, false, false, [], [], false, false, false, ⟨hn, hn, hn, hnA⟩, by simp, by simp⟩
      | true =>
        simp only [if_true, l6Word_eq, isWord_eq, Option.bind_some]
        cases decide (0 ≤ a ∧ a ≤ 65535) with
        | false => exact ⟨[], [], _, _, _, _, _, _, [], [], _, _, _, ⟨hn, hn, hn, hnA⟩, rfl, rfl⟩
        | true =>
          refine ⟨[0, 0, 0, 0], [0, 0, 0, 384], 0, a, 0, 7, true, false, l ++ List.replicate (512 - l.length) 0, [], false, false, true, ⟨⟨by simp, by simp⟩, ⟨by simp, by simp⟩, ⟨?_, ?_⟩, hnA⟩, rfl, rfl⟩ <;> rw [List.length_append, List.length_replicate] <;> omega
    · exact ⟨[], [], 0, 0, 0, 0, false, false, [], [], false, false, false, ⟨hn, hn, hn, hnA⟩, by simp [hc], by simp [hc]⟩
  obtain ⟨m0, m1, b2, b3, b4, b5, b6, b7, m8, m9, b10, b11, b12, ⟨g0, g1, g8, g9⟩, e1, e2⟩ := hs
  rw [ht]
  simp only [Option.bind_some]
  rw [e1]
  simp only [Option.bind_some]
  rw [e2]
  simp only [Option.bind_some]
  rw [eqCpu_eq g0 g1 g8 g9, Option.bind_some, if_pos rfl, if_neg (by simp), eqInt_eq hl' (by omega), Option.bind_some, if_pos rfl, markIntS_eq l 1 _ (by omega) (by omega) (by omega), Option.bind_some]
  simp only
  rw [if_neg (by omega), Option.bind_some, if_pos rfl, markCpu_eq g0 g1 g8 g9]
  simp only [Option.bind_some]
  rw [heldCpu_eq g0 g1 g8 g9]
  have hneg : ¬ (1 + (m0.length : Int) + (m1.length : Int) + (m8.length : Int) + 5 * (m9.length : Int) < 0) := by omega
  simp only [Option.bind_some, bne_self_eq_false, Bool.false_eq_true, if_false, if_true, hneg]

end Go.Proofs.Ytodmelfgkhebjaa.Pure
