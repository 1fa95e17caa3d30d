/- The law FnExactSameCpu as a plain function answers true for all arguments (numbers of 64 bits, lists of at most 2^63 - 1 elements). No other condition. -/
import Derived.Test.YtlebikjghlaooaaPx32
import Derived.Test.YtlebikjghlaooaaMath
set_option linter.unusedVariables false
set_option linter.unusedSimpArgs false
namespace Go.Proofs.Ytlebikjghlaooaa.Pure
open Go.RowKit Go.Proofs.Ytlebikjghlaooaa.P Go.Proofs.YtlebikjghlaooaaW.PrintWords Go.Proofs.YtlebikjghlaooaaW.PrintLast Go.Proofs.Ytlebikjghlaooaa.Math

theorem stepNat {i n : Nat} (h : i < n) (hn : n ≤ 1048576) : wrap64 ((i : Int) + 1) = ((i + 1 : Nat) : Int) := by
  rw [wrap64_id (by omega) (by omega)]
  omega
theorem rdI {l : List Int} {i : Nat} (h : i < l.length) : rd l (i : Int) = l[i] := by
  simp [rd, List.getElem?_eq_getElem h]
theorem setMap {α β : Type} (f : α → β) (z : β) (l : List α) (i m : Nat) (h : i + (m + 1) = l.length) :
    ((l.take i).map f ++ List.replicate (m + 1) z).set i (f (l[i]'(by omega))) = (l.take (i + 1)).map f ++ List.replicate m z := by
  have hi : i < l.length := by omega
  rw [List.set_append_right _ _ (by simp; omega), List.take_succ_eq_append_getElem hi, List.map_append, List.append_assoc]
  congr 1
  have : i - ((l.take i).map f).length = 0 := by simp; omega
  rw [this, List.replicate_succ]
  rfl
/-- The four lists of a processor are short, and the rounds are enough for them. -/
def Fits (k : Nat) (n : Nat) : Prop := n ≤ 1048576 ∧ n < k
theorem rdL {l : List S110} {i : Nat} (h : i < l.length) : rd_T110 l (i : Int) = l[i] := by
  simp [rd_T110, h]
theorem rdA {l : List S75} {i : Nat} (h : i < l.length) : rd_T75 l (i : Int) = l[i] := by
  simp [rd_T75, h]
/-- What the copy of one access is. -/
def convA (x : S110) : S75 := ⟨x.f0, x.f1, x.f2, x.f3, x.f4⟩
theorem toInt_loop (l : List Int) (hl : l.length ≤ 1048576) : ∀ (m i k : Nat), i + m = l.length → m < k →
    laws_toIntS.l0 k l ((l.take i).map id ++ List.replicate m 0) (i : Int) = some l
  | 0, i, k, h, hk => by
    obtain ⟨k, rfl⟩ : ∃ n, k = n + 1 := ⟨k - 1, by omega⟩
    rw [laws_toIntS.l0, if_neg (by omega), List.take_of_length_le (by omega)]
    simp
  | m + 1, i, k, h, hk => by
    obtain ⟨k, rfl⟩ : ∃ n, k = n + 1 := ⟨k - 1, by omega⟩
    have hi : i < l.length := by omega
    rw [laws_toIntS.l0, if_pos (by omega), if_pos (by omega), rdI hi, if_pos (by simp; omega), stepNat hi hl, Int.toNat_natCast]
    have := setMap id (0 : Int) l i m h
    simp only [id] at this
    change laws_toIntS.l0 k l (((l.take i).map id ++ List.replicate (m + 1) 0).set i l[i]) ((i + 1 : Nat) : Int) = _
    rw [this]
    exact toInt_loop l hl m (i + 1) k (by omega) (by omega)
theorem toInt_eq {l : List Int} (hl : l.length ≤ 1048576) {k : Nat} (hk : l.length < k) : laws_toIntS.f k l = some l := by
  unfold laws_toIntS.f
  rw [if_pos (by omega), if_pos (by rw [Int.toNat_natCast]; omega)]
  have := toInt_loop l hl l.length 0 k (by omega) hk
  simpa using this
theorem toAcc_loop (l : List S110) (hl : l.length ≤ 1048576) : ∀ (m i k : Nat), i + m = l.length → m < k →
    laws_toAccessS.l0 k l ((l.take i).map convA ++ List.replicate m z75) (i : Int) = some (l.map convA)
  | 0, i, k, h, hk => by
    obtain ⟨k, rfl⟩ : ∃ n, k = n + 1 := ⟨k - 1, by omega⟩
    rw [laws_toAccessS.l0, if_neg (by omega), List.take_of_length_le (by omega)]
    simp
  | m + 1, i, k, h, hk => by
    obtain ⟨k, rfl⟩ : ∃ n, k = n + 1 := ⟨k - 1, by omega⟩
    have hi : i < l.length := by omega
    rw [laws_toAccessS.l0, if_pos (by omega), if_pos (by omega), rdL hi]
    unfold laws_toAccess.f
    rw [Option.bind_some, if_pos (by simp; omega), stepNat hi hl, Int.toNat_natCast]
    change laws_toAccessS.l0 k l (((l.take i).map convA ++ List.replicate (m + 1) z75).set i (convA l[i])) ((i + 1 : Nat) : Int) = _
    rw [setMap convA z75 l i m h]
    exact toAcc_loop l hl m (i + 1) k (by omega) (by omega)
theorem toAcc_eq {l : List S110} (hl : l.length ≤ 1048576) {k : Nat} (hk : l.length < k) : laws_toAccessS.f k l = some (l.map convA) := by
  unfold laws_toAccessS.f
  rw [if_pos (by omega), if_pos (by rw [Int.toNat_natCast]; omega)]
  have := toAcc_loop l hl l.length 0 k (by omega) hk
  simpa using this
theorem eqInt_loop (l : List Int) (hl : l.length ≤ 1048576) : ∀ (m i k : Nat), i + m = l.length → m < k → laws_eqIntS.l0 k l l (i : Int) = some true
  | 0, i, k, h, hk => by
    obtain ⟨k, rfl⟩ : ∃ n, k = n + 1 := ⟨k - 1, by omega⟩
    rw [laws_eqIntS.l0, if_neg (by omega)]
  | m + 1, i, k, h, hk => by
    obtain ⟨k, rfl⟩ : ∃ n, k = n + 1 := ⟨k - 1, by omega⟩
    have hi : i < l.length := by omega
    rw [laws_eqIntS.l0, if_pos (by omega), if_pos (by omega), if_pos (by omega), if_pos rfl, stepNat hi hl]
    exact eqInt_loop l hl m (i + 1) k (by omega) (by omega)
theorem eqInt_eq {l : List Int} (hl : l.length ≤ 1048576) {k : Nat} (hk : l.length < k) : laws_eqIntS.f k l l = some true := by
  unfold laws_eqIntS.f
  rw [if_pos rfl]
  exact eqInt_loop l hl l.length 0 k (by omega) hk
theorem eqAcc_loop (l : List S75) (hl : l.length ≤ 1048576) : ∀ (m i k : Nat), i + m = l.length → m < k → laws_eqAccessS.l0 k l l (i : Int) = some true
  | 0, i, k, h, hk => by
    obtain ⟨k, rfl⟩ : ∃ n, k = n + 1 := ⟨k - 1, by omega⟩
    rw [laws_eqAccessS.l0, if_neg (by omega)]
  | m + 1, i, k, h, hk => by
    obtain ⟨k, rfl⟩ : ∃ n, k = n + 1 := ⟨k - 1, by omega⟩
    have hi : i < l.length := by omega
    have hs : ∀ a b c d e, laws_eqAccess.f a b c d e a b c d e = some true := fun a b c d e => by simp [laws_eqAccess.f]
    rw [laws_eqAccessS.l0, if_pos (by omega), if_pos (by omega), if_pos (by omega), hs, Option.bind_some, if_pos rfl, stepNat hi hl]
    exact eqAcc_loop l hl m (i + 1) k (by omega) (by omega)
theorem eqAcc_eq {l : List S75} (hl : l.length ≤ 1048576) {k : Nat} (hk : l.length < k) : laws_eqAccessS.f k l l = some true := by
  unfold laws_eqAccessS.f
  rw [if_pos rfl]
  exact eqAcc_loop l hl l.length 0 k (by omega) hk
theorem toCpu_eq {k : Nat} {l0 l1 l8 : List Int} {l9 : List S110} (h0 : Fits k l0.length) (h1 : Fits k l1.length) (h8 : Fits k l8.length) (h9 : Fits k l9.length) (a2 a3 a4 a5 : Int) (a6 a7 a10 a11 : Bool) :
    laws_toCpu.f k l0 l1 a2 a3 a4 a5 a6 a7 l8 l9 a10 a11 = some (l0, l1, a2, a3, a4, a5, a6, a7, l8, l9.map convA, a10, a11) := by
  unfold laws_toCpu.f laws_toRegs.f laws_toBus.f
  rw [toInt_eq h0.1 h0.2, toInt_eq h1.1 h1.2, toInt_eq h8.1 h8.2, toAcc_eq h9.1 h9.2]
  rfl
theorem eqCpu_eq {k : Nat} {l0 l1 l8 : List Int} {l9 : List S75} (h0 : Fits k l0.length) (h1 : Fits k l1.length) (h8 : Fits k l8.length) (h9 : Fits k l9.length) (a2 a3 a4 a5 : Int) (a6 a7 a10 a11 : Bool) :
    laws_eqCpu.f k l0 l1 a2 a3 a4 a5 a6 a7 l8 l9 a10 a11 l0 l1 a2 a3 a4 a5 a6 a7 l8 l9 a10 a11 = some true := by
  unfold laws_eqCpu.f laws_eqRegs.f laws_eqBus.f
  rw [eqInt_eq h0.1 h0.2, eqInt_eq h1.1 h1.2, eqInt_eq h8.1 h8.2, eqAcc_eq h9.1 h9.2]
  simp
theorem szOne (l : List Int) (a : Int) (ha : 0 ≤ a ∧ a ≤ 1048576) (h : l.length ≤ 9223372036854775807) : ∃ r, laws_szIntS.f l a = some r ∧ (r < 0 ∨ (0 ≤ r ∧ r ≤ 1048576 ∧ l.length ≤ 1048576)) := by
  unfold laws_szIntS.f
  rw [wrap64_id (by omega) (by omega)]
  by_cases h : a - (l.length : Int) < 0
  · rw [if_pos h]
    exact ⟨-1, rfl, Or.inl (by omega)⟩
  · rw [if_neg h]
    exact ⟨_, rfl, Or.inr (by omega)⟩
theorem szAcc (l : List S110) (a : Int) (ha : 0 ≤ a ∧ a ≤ 1048576) (h : l.length ≤ 9223372036854775807) : ∃ r, laws_szAccessS.f l a = some r ∧ (r < 0 ∨ (0 ≤ r ∧ r ≤ 1048576 ∧ l.length ≤ 1048576)) := by
  unfold laws_szAccessS.f
  rw [wrap64_id (by omega) (by omega)]
  by_cases h : a - (l.length : Int) < 0
  · rw [if_pos h]
    exact ⟨-1, rfl, Or.inl (by omega)⟩
  · rw [if_neg h]
    exact ⟨_, rfl, Or.inr (by omega)⟩
theorem szCpu_eq (l0 l1 : List Int) (a2 a3 a4 a5 : Int) (a6 a7 : Bool) (l8 : List Int) (l9 : List S110) (a10 a11 : Bool) (a : Int) (ha : 0 ≤ a ∧ a ≤ 1048576)
    (h0 : l0.length ≤ 9223372036854775807) (h1 : l1.length ≤ 9223372036854775807) (h8 : l8.length ≤ 9223372036854775807) (h9 : l9.length ≤ 9223372036854775807) :
    ∃ r, laws_szCpu.f l0 l1 a2 a3 a4 a5 a6 a7 l8 l9 a10 a11 a = some r ∧ (r < 0 ∨ (0 ≤ r ∧ r ≤ 1048576 ∧ l0.length ≤ 1048576 ∧ l1.length ≤ 1048576 ∧ l8.length ≤ 1048576 ∧ l9.length ≤ 1048576)) := by
  unfold laws_szCpu.f laws_szRegs.f laws_szBus.f
  obtain ⟨r0, e0, c0⟩ := szOne l0 a ha h0
  rw [e0, Option.bind_some]
  rcases c0 with c0 | ⟨p0, q0, s0⟩
  · rw [if_pos c0, Option.bind_some, if_pos (by omega)]
    exact ⟨_, rfl, Or.inl (by omega)⟩
  obtain ⟨r1, e1, c1⟩ := szOne l1 r0 ⟨p0, q0⟩ h1
  rw [if_neg (by omega), e1, Option.bind_some]
  rcases c1 with c1 | ⟨p1, q1, s1⟩
  · rw [if_pos c1, Option.bind_some, if_pos (by omega)]
    exact ⟨_, rfl, Or.inl (by omega)⟩
  obtain ⟨r8, e8, c8⟩ := szOne l8 r1 ⟨p1, q1⟩ h8
  rw [if_neg (by omega), Option.bind_some, if_neg (by omega), e8, Option.bind_some]
  rcases c8 with c8 | ⟨p8, q8, s8⟩
  · rw [if_pos c8, Option.bind_some, if_pos (by omega)]
    exact ⟨_, rfl, Or.inl (by omega)⟩
  obtain ⟨r9, e9, c9⟩ := szAcc l9 r8 ⟨p8, q8⟩ h9
  rw [if_neg (by omega), e9, Option.bind_some]
  rcases c9 with c9 | ⟨p9, q9, s9⟩
  · rw [if_pos c9, Option.bind_some, if_pos (by omega)]
    exact ⟨_, rfl, Or.inl (by omega)⟩
  rw [if_neg (by omega), Option.bind_some, if_neg (by omega)]
  exact ⟨r9, rfl, Or.inr ⟨p9, q9, s0, s1, s8, s9⟩⟩
theorem sameI_loop (l l' : List Int) (hl : l.length ≤ 1048576) (he : l.length = l'.length) : ∀ (m i k : Nat), i + m = l.length → m < k →
    ∃ b, spec_l1Same.l0 k l l' (l.length : Int) (i : Int) = some b ∧ slices_Equal_int_int.l0 k l l' (l.length : Int) (i : Int) = some b
  | 0, i, k, h, hk => by
    obtain ⟨k, rfl⟩ : ∃ n, k = n + 1 := ⟨k - 1, by omega⟩
    refine ⟨true, ?_, ?_⟩
    · rw [spec_l1Same.l0, if_neg (by omega)]
    · rw [slices_Equal_int_int.l0, if_neg (by omega)]
  | m + 1, i, k, h, hk => by
    obtain ⟨k, rfl⟩ : ∃ n, k = n + 1 := ⟨k - 1, by omega⟩
    have hi : i < l.length := by omega
    obtain ⟨b, h1, h2⟩ := sameI_loop l l' hl he m (i + 1) k (by omega) (by omega)
    refine ⟨_, (by rw [spec_l1Same.l0, if_pos (by omega), if_pos (by omega), if_pos (by omega), if_pos (by omega), stepNat hi hl, h1]; exact (apply_ite some (rd l (i : Int) = rd l' (i : Int)) b false).symm), ?_⟩
    rw [slices_Equal_int_int.l0, if_pos (by omega), if_pos (by omega), if_pos (by omega), if_pos (by omega), stepNat hi hl, h2]
    exact (apply_ite some (rd l (i : Int) = rd l' (i : Int)) b false).symm
theorem sameI {l l' : List Int} {k : Nat} (h : Fits k l.length) : ∃ b, spec_l1Same.f k l l' = some b ∧ slices_Equal_int_int.f k l l' = some b := by
  unfold spec_l1Same.f slices_Equal_int_int.f
  by_cases he : (l.length : Int) = (l'.length : Int)
  · rw [if_pos he, if_pos he]
    exact sameI_loop l l' h.1 (by omega) l.length 0 k (by omega) h.2
  · rw [if_neg he, if_neg he]
    exact ⟨false, rfl, rfl⟩
theorem sameA_loop (l l' : List S75) (hl : l.length ≤ 1048576) (he : l.length = l'.length) : ∀ (m i k : Nat), i + m = l.length → m < k →
    ∃ b, spec_l10SameLogs.l0 k l l' (l.length : Int) (i : Int) = some b ∧ impl_Access_46.l0 k l l' (l.length : Int) (i : Int) = some b
  | 0, i, k, h, hk => by
    obtain ⟨k, rfl⟩ : ∃ n, k = n + 1 := ⟨k - 1, by omega⟩
    refine ⟨true, ?_, ?_⟩
    · rw [spec_l10SameLogs.l0, if_neg (by omega)]
    · rw [impl_Access_46.l0, if_neg (by omega)]
  | m + 1, i, k, h, hk => by
    obtain ⟨k, rfl⟩ : ∃ n, k = n + 1 := ⟨k - 1, by omega⟩
    have hi : i < l.length := by omega
    obtain ⟨b, h1, h2⟩ := sameA_loop l l' hl he m (i + 1) k (by omega) (by omega)
    refine ⟨_, (by rw [spec_l10SameLogs.l0, if_pos (by omega), if_pos (by omega), if_pos (by omega), if_pos (by omega), stepNat hi hl, h1]; exact (apply_ite some _ false b).symm), ?_⟩
    rw [impl_Access_46.l0, if_pos (by omega), if_pos (by omega), if_pos (by omega), if_pos (by omega), stepNat hi hl, h2]
    exact (apply_ite some _ false b).symm
theorem sameA {l l' : List S75} {k : Nat} (h : Fits k l.length) : ∃ b, spec_l10SameLogs.f k l l' = some b ∧ impl_Access_46.f k l l' = some b := by
  unfold spec_l10SameLogs.f impl_Access_46.f
  by_cases he : (l.length : Int) = (l'.length : Int)
  · rw [if_pos he, if_pos he]
    exact sameA_loop l l' h.1 (by omega) l.length 0 k (by omega) h.2
  · rw [if_neg he, if_neg he]
    exact ⟨false, rfl, rfl⟩
theorem same_same {k : Nat} {l0 l1 l8 : List Int} {l9 : List S75} (h0 : Fits k l0.length) (h1 : Fits k l1.length) (h8 : Fits k l8.length) (h9 : Fits k l9.length) (a2 a3 a4 a5 : Int) (a6 a7 a10 a11 : Bool)
    (m0 m1 m8 : List Int) (m9 : List S75) (b2 b3 b4 b5 : Int) (b6 b7 b10 b11 : Bool) :
    ∃ b, spec_SameCpu.f k l0 l1 a2 a3 a4 a5 a6 a7 l8 l9 a10 a11 m0 m1 b2 b3 b4 b5 b6 b7 m8 m9 b10 b11 = some b ∧ impl_SameCpu.f k l0 l1 a2 a3 a4 a5 a6 a7 l8 l9 a10 a11 m0 m1 b2 b3 b4 b5 b6 b7 m8 m9 b10 b11 = some b := by
  unfold spec_SameCpu.f impl_SameCpu.f spec_l10SameRegs.f impl_sameRegs.f
  obtain ⟨x0, p0, q0⟩ := @sameI l0 m0 k h0
  obtain ⟨x1, p1, q1⟩ := @sameI l1 m1 k h1
  obtain ⟨x8, p8, q8⟩ := @sameI l8 m8 k h8
  obtain ⟨x9, p9, q9⟩ := @sameA l9 m9 k h9
  rw [p0, q0, p1, q1, p8, q8, p9, q9]
  simp only [Option.bind_some]
  cases x0 with
  | false => exact ⟨_, rfl, rfl⟩
  | true =>
    cases x1 with
    | false => exact ⟨_, rfl, rfl⟩
    | true =>
      simp only [if_true, Option.bind_some]
      by_cases e2 : a2 = b2 <;> by_cases e3 : a3 = b3 <;> by_cases e4 : a4 = b4 <;> by_cases e5 : a5 = b5 <;> cases (a6 == b6) <;> cases (a7 == b7) <;> cases x8 <;> cases x9 <;> cases (a10 == b10) <;> simp [e2, e3, e4, e5]
theorem FnExactSameCpu : ∀ (l0_0 : (List Int)) (l0_1 : (List Int)) (a0_2 : Int) (a0_3 : Int) (a0_4 : Int) (a0_5 : Int) (a0_6 : Bool) (a0_7 : Bool) (l0_8 : (List Int)) (l0_9 : (List S110)) (a0_10 : Bool) (a0_11 : Bool) (l1_0 : (List Int)) (l1_1 : (List Int)) (a1_2 : Int) (a1_3 : Int) (a1_4 : Int) (a1_5 : Int) (a1_6 : Bool) (a1_7 : Bool) (l1_8 : (List Int)) (l1_9 : (List S110)) (a1_10 : Bool) (a1_11 : Bool), l0_0.length ≤ 9223372036854775807 → l0_1.length ≤ 9223372036854775807 → (Lit.int .i64 a0_2).wf = true → (Lit.int .i64 a0_3).wf = true → (Lit.int .i64 a0_4).wf = true → (Lit.int .i64 a0_5).wf = true → l0_8.length ≤ 9223372036854775807 → l0_9.length ≤ 9223372036854775807 → l1_0.length ≤ 9223372036854775807 → l1_1.length ≤ 9223372036854775807 → (Lit.int .i64 a1_2).wf = true → (Lit.int .i64 a1_3).wf = true → (Lit.int .i64 a1_4).wf = true → (Lit.int .i64 a1_5).wf = true → l1_8.length ≤ 9223372036854775807 → l1_9.length ≤ 9223372036854775807 → ∃ k, laws_FnExactSameCpu.f k l0_0 l0_1 a0_2 a0_3 a0_4 a0_5 a0_6 a0_7 l0_8 l0_9 a0_10 a0_11 l1_0 l1_1 a1_2 a1_3 a1_4 a1_5 a1_6 a1_7 l1_8 l1_9 a1_10 a1_11 = some true := by
  intro l0 l1 a2 a3 a4 a5 a6 a7 l8 l9 a10 a11 m0 m1 b2 b3 b4 b5 b6 b7 m8 m9 b10 b11 h0 h1 _ _ _ _ h8 h9 i0 i1 _ _ _ _ i8 i9
  obtain ⟨r, hr, hc⟩ := szCpu_eq l0 l1 a2 a3 a4 a5 a6 a7 l8 l9 a10 a11 1048576 (by omega) h0 h1 h8 h9
  rcases hc with hc | ⟨p, p', s0, s1, s8, s9⟩
  · refine ⟨0, ?_⟩
    unfold laws_FnExactSameCpu.f
    rw [hr, Option.bind_some, if_pos hc]
  obtain ⟨r', hr', hc'⟩ := szCpu_eq m0 m1 b2 b3 b4 b5 b6 b7 m8 m9 b10 b11 r ⟨p, p'⟩ i0 i1 i8 i9
  rcases hc' with hc' | ⟨q, q', t0, t1, t8, t9⟩
  · refine ⟨0, ?_⟩
    unfold laws_FnExactSameCpu.f
    rw [hr, Option.bind_some, if_neg (by omega), hr', Option.bind_some, if_pos hc']
  · refine ⟨4194304, ?_⟩
    have e9 : (l9.map convA).length = l9.length := by simp
    have e9' : (m9.map convA).length = m9.length := by simp
    have f0 : Fits 4194304 l0.length := ⟨s0, by omega⟩
    have f1 : Fits 4194304 l1.length := ⟨s1, by omega⟩
    have f8 : Fits 4194304 l8.length := ⟨s8, by omega⟩
    have f9 : Fits 4194304 l9.length := ⟨s9, by omega⟩
    have f9' : Fits 4194304 (l9.map convA).length := ⟨by omega, by omega⟩
    have g0 : Fits 4194304 m0.length := ⟨t0, by omega⟩
    have g1 : Fits 4194304 m1.length := ⟨t1, by omega⟩
    have g8 : Fits 4194304 m8.length := ⟨t8, by omega⟩
    have g9 : Fits 4194304 m9.length := ⟨t9, by omega⟩
    have g9' : Fits 4194304 (m9.map convA).length := ⟨by omega, by omega⟩
    obtain ⟨b, e1, e2⟩ := same_same f0 f1 f8 f9' a2 a3 a4 a5 a6 a7 a10 a11 m0 m1 m8 (m9.map convA) b2 b3 b4 b5 b6 b7 b10 b11
    unfold laws_FnExactSameCpu.f
    rw [hr, Option.bind_some, if_neg (by omega), hr', Option.bind_some, if_neg (by omega), toCpu_eq f0 f1 f8 f9, toCpu_eq g0 g1 g8 g9]
    simp only [Option.bind_some]
    rw [e1, e2]
    simp only [Option.bind_some]
    rw [if_neg (by simp), eqCpu_eq f0 f1 f8 f9']
    simp only [Option.bind_some]
    rw [if_pos trivial, eqCpu_eq g0 g1 g8 g9']
    rfl

end Go.Proofs.Ytlebikjghlaooaa.Pure
