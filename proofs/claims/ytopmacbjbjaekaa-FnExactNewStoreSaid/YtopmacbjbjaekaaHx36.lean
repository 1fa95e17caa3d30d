-- Made by this session's program gprint.py out of the translation. Not trusted: Lean checks it.
import Derived.Test.YtopmacbjbjaekaaHx0
import Derived.Test.YtopmacbjbjaekaaHx35
namespace Go.Proofs.Ytopmacbjbjaekaa.H
open Go.RowKit Go.Proofs.YtopmacbjbjaekaaW.PrintWords Go.Proofs.YtopmacbjbjaekaaW.PrintLast Go.Proofs.YtopmacbjbjaekaaW.PrintMore
attribute [local go_sem] max2_int min2_int max_two min_two max_three min_three max_four min_four   -- for this text's walks alone
set_option linter.unusedVariables false
set_option linter.unusedSimpArgs false

/-! ### laws_heldCachedS: function 89 -/
def laws_heldCachedS.l0 : Nat → List (S107) → Int → Int → Option (Int)
  | 0, _, _, _ => none
  | k + 1, x0, x1, x5 => if x5 < (x0.length : Int) then (if 0 ≤ x5 then (if ((rd_T107 x0 x5).f0.f0) = x1 then (if ((rd_T107 x0 x5).f0.f1) = (wrap64 (x1 + 1)) then ((laws_heldMicroS.f k ((rd_T107 x0 x5).f0.f2) (wrap64 ((wrap64 (x1 + 1)) + 1))).bind fun t601 => (if t601 < 0 then (some (-1)) else (if ((rd_T107 x0 x5).f1) = t601 then (laws_heldCachedS.l0 k x0 (wrap64 (t601 + 1)) (wrap64 (x5 + 1))) else (some (-1))))) else (some (-1))) else (some (-1))) else (none)) else (some x1)
def laws_heldCachedS.f (k : Nat) (l0 : List (S107)) (a1 : Int) : Option (Int) := laws_heldCachedS.l0 k l0 a1 0
theorem laws_heldCachedS.mono_l : ∀ k, (∀ y0 y1 y2, LeO (laws_heldCachedS.l0 k y0 y1 y2) (laws_heldCachedS.l0 (k + 1) y0 y1 y2))
  | 0 => fun _ _ _ r h => by simp [laws_heldCachedS.l0] at h
  | k + 1 => by
    have ih0 := laws_heldCachedS.mono_l k
    · intro y0 y1 y2
      unfold laws_heldCachedS.l0
      repeat' first
      | (with_reducible exact ih0 _ _ _)
      | (with_reducible exact laws_heldMicroS.mono _ _ _)
      | (with_reducible exact LeO.refl _)
      | (with_reducible exact LeO.none _)
      | (with_reducible refine LeO.ite ?_ ?_)
      | (with_reducible refine LeO.bind ?_ (fun _ => ?_))
      | exact ih0 _ _ _
      | exact laws_heldMicroS.mono _ _ _
      | exact LeO.none _
      | refine LeO.ite ?_ ?_
      | refine LeO.bind ?_ (fun _ => ?_)
theorem laws_heldCachedS.mono : ∀ a0 a1 k, LeO (laws_heldCachedS.f k a0 a1) (laws_heldCachedS.f (k + 1) a0 a1) := by
  intro a0 a1 k
  have ih0 := laws_heldCachedS.mono_l k
  unfold laws_heldCachedS.f
  repeat' first
      | (with_reducible exact ih0 _ _ _)
      | (with_reducible exact laws_heldMicroS.mono _ _ _)
      | (with_reducible exact LeO.refl _)
      | (with_reducible exact LeO.none _)
      | (with_reducible refine LeO.ite ?_ ?_)
      | (with_reducible refine LeO.bind ?_ (fun _ => ?_))
      | exact ih0 _ _ _
      | exact laws_heldMicroS.mono _ _ _
      | exact LeO.none _
      | refine LeO.ite ?_ ?_
      | refine LeO.bind ?_ (fun _ => ?_)
set_option maxHeartbeats 8000000 in
set_option maxRecDepth 100000 in
theorem laws_heldCachedS.calls (k : Nat) (A0 : Option Addr) (c0 : Nat) (l0 : List (S107)) (a1 : Int) (r : Int) (w : World) (hr0 : Kd.C k107 w A0 l0.length l0) (hc0 : l0.length ≤ c0) (h : laws_heldCachedS.f k l0 a1 = some r) :
    Calls Try.prog 89 #[.slice A0 l0.length c0, .int .i64 a1] w fun e w' => e = .returned (.int .i64 r) ∧ Drawn0 w w' := by
  have HR0 := Aside0.mk hr0
  have HC0 := Aside0.mk hc0
  clear hr0 hc0
  have H : (laws_heldCachedS.l0 k l0 a1 0) = some r := h
  clear h
  have H' := Aside0.mk H
  clear H
  go_enter Try.func89, Try.ntmps89
  go_wp2
  go_loopg [1, 5] k (fun kq v1 v5 w' => ∃ (x1_1 : Int) (x5_1 : Int), v1 = .int .i64 x1_1 ∧ v5 = .int .i64 x5_1 ∧ Aside0 (laws_heldCachedS.l0 kq l0 x1_1 x5_1 = some r) ∧ Aside0 (kq ≤ k) ∧ Drawn0 w w')
  case atStart => exact ⟨(a1), (0), (by first | rfl | (simp; done) | (simp [*]; done)), (by first | rfl | (simp; done) | (simp [*]; done)), H', ⟨Nat.le_refl _⟩, by repeat (first | exact Drawn0.refl _ | apply Drawn0.step)⟩
  case round =>
    clear H'
    try clear p2
    obtain ⟨x1_1, x5_1, rfl, rfl, HA, HK1, ⟨m1, rfl⟩⟩ := hrel
    cases gk with
    | zero => exact absurd HA.out (by simp [laws_heldCachedS.l0])
    | succ k1 =>
      have H := HA.out
      clear HA
      simp only [laws_heldCachedS.l0] at H
      by_cases c3 : x5_1 < (l0.length : Int)
      · rw [if_pos c3] at H
        have c3b0 : decide (x5_1 < (l0.length : Int)) = true := decide_eq_true c3
        clear c3
        by_cases c4 : 0 ≤ x5_1
        · rw [if_pos c4] at H
          have c4b0 : decide (0 ≤ x5_1) = true := decide_eq_true c4
          clear c4
          by_cases c5 : ((rd_T107 l0 x5_1).f0.f0) = x1_1
          · rw [if_pos c5] at H
            have c5b0 : (((rd_T107 l0 x5_1).f0.f0) == x1_1) = true := beq_iff_eq.mpr c5
            have c5b1 : (((rd_T107 l0 x5_1).f0.f0) != x1_1) = false := bne_eq_false_iff_eq.mpr c5
            clear c5
            by_cases c6 : ((rd_T107 l0 x5_1).f0.f1) = (wrap64 (x1_1 + 1))
            · rw [if_pos c6] at H
              have c6b0 : (((rd_T107 l0 x5_1).f0.f1) == (wrap64 (x1_1 + 1))) = true := beq_iff_eq.mpr c6
              have c6b1 : (((rd_T107 l0 x5_1).f0.f1) != (wrap64 (x1_1 + 1))) = false := bne_eq_false_iff_eq.mpr c6
              clear c6
              replace H := Option.bind_eq_some_iff.mp H
              obtain ⟨t601, A70, H⟩ := H
              replace H : (if t601 < 0 then (some (-1)) else (if ((rd_T107 l0 x5_1).f1) = t601 then (laws_heldCachedS.l0 k1 l0 (wrap64 (t601 + 1)) (wrap64 (x5_1 + 1))) else (some (-1)))) = some r := H
              have A7 := Aside0.mk A70
              clear A70
              by_cases c8 : t601 < 0
              · rw [if_pos c8] at H
                have c8b0 : decide (t601 < 0) = true := decide_eq_true c8
                clear c8
                obtain rfl := Option.some.inj H
                have p598 : 0 ≤ (x5_1 : Int) := of_decide_eq_true (by first | (with_reducible assumption) | assumption)
                have q598 : x5_1 < (l0.length : Int) := of_decide_eq_true (by first | (with_reducible assumption) | assumption)
                obtain ⟨ad598, A598_2, c598_2, e598, hx598_0, hx598_1, hx598_2, hx598_3, hl598_2, hi598_2⟩ := at_T107 HR0.out x5_1 p598 q598
                cases e598
                have HR598_2 := Aside0.mk hi598_2
                have HC598_2 := Aside0.mk hl598_2
                clear hi598_2 hl598_2
                replace p598 := eq_true p598
                replace q598 := eq_true q598
                have p599 : 0 ≤ (x5_1 : Int) := of_decide_eq_true (by first | (with_reducible assumption) | assumption)
                have q599 : x5_1 < (l0.length : Int) := of_decide_eq_true (by first | (with_reducible assumption) | assumption)
                obtain ⟨ad599, A599_2, c599_2, e599, hx599_0, hx599_1, hx599_2, hx599_3, hl599_2, hi599_2⟩ := at_T107 HR0.out x5_1 p599 q599
                obtain rfl : ad598 = ad599 := (by injection e599)
                have HR599_2 := Aside0.mk hi599_2
                have HC599_2 := Aside0.mk hl599_2
                clear hi599_2 hl599_2
                replace p599 := eq_true p599
                replace q599 := eq_true q599
                have ea_ := Option.some.inj (hx598_2.symm.trans hx599_2)
                injection ea_ with ea_ en_ ec_
                subst ea_
                subst ec_
                clear en_
                have p600 : 0 ≤ (x5_1 : Int) := of_decide_eq_true (by first | (with_reducible assumption) | assumption)
                have q600 : x5_1 < (l0.length : Int) := of_decide_eq_true (by first | (with_reducible assumption) | assumption)
                obtain ⟨ad600, A600_2, c600_2, e600, hx600_0, hx600_1, hx600_2, hx600_3, hl600_2, hi600_2⟩ := at_T107 HR0.out x5_1 p600 q600
                obtain rfl : ad598 = ad600 := (by injection e600)
                have HR600_2 := Aside0.mk hi600_2
                have HC600_2 := Aside0.mk hl600_2
                clear hi600_2 hl600_2
                replace p600 := eq_true p600
                replace q600 := eq_true q600
                have ea_ := Option.some.inj (hx598_2.symm.trans hx600_2)
                injection ea_ with ea_ en_ ec_
                subst ea_
                subst ec_
                clear en_
                go_wp2_with (first | ((with_reducible refine gate_callee (f := 128) rfl ?_); refine goesL_ (some 39) rfl rfl Try.func128 (by kernel_rfl) rfl #[.slice A598_2 ((rd_T107 l0 x5_1).f0.f2).length c598_2, .int .i64 (wrap64 ((wrap64 (x1_1 + 1)) + 1))] rfl (by (try simp only [List.map_toArray, List.map_cons, List.map_nil]); first | done | rfl | (simp only [List.length_drop, List.length_take]; rfl)) ?_; (with_reducible refine (laws_heldMicroS.calls k1 _ _ ((rd_T107 l0 x5_1).f0.f2) (wrap64 ((wrap64 (x1_1 + 1)) + 1)) t601 _ ?side1 ?side2 A7.out).mono ?_); (case side1 => repeat (first | exact HR600_2.out | (with_reducible refine Kd.C_alloc ?_ _) | (with_reducible refine Kd.C_drewN ?_ _) | (with_reducible refine Kd.C_drew ?_))); (case side2 => exact HC600_2.out); rintro e w' ⟨rfl, ⟨nd, rfl⟩⟩; refine ⟨_, rfl, ?_⟩))
                go_ret
                exact ⟨by first | rfl | (simp; done) | (simp [*]; done), by repeat (first | exact Drawn0.refl _ | apply Drawn0.step)⟩
              · rw [if_neg c8] at H
                have c8b0 : decide (t601 < 0) = false := decide_eq_false c8
                clear c8
                by_cases c9 : ((rd_T107 l0 x5_1).f1) = t601
                · rw [if_pos c9] at H
                  have c9b0 : (((rd_T107 l0 x5_1).f1) == t601) = true := beq_iff_eq.mpr c9
                  have c9b1 : (((rd_T107 l0 x5_1).f1) != t601) = false := bne_eq_false_iff_eq.mpr c9
                  clear c9
                  have H' := Aside0.mk H
                  clear H
                  have p598 : 0 ≤ (x5_1 : Int) := of_decide_eq_true (by first | (with_reducible assumption) | assumption)
                  have q598 : x5_1 < (l0.length : Int) := of_decide_eq_true (by first | (with_reducible assumption) | assumption)
                  obtain ⟨ad598, A598_2, c598_2, e598, hx598_0, hx598_1, hx598_2, hx598_3, hl598_2, hi598_2⟩ := at_T107 HR0.out x5_1 p598 q598
                  cases e598
                  have HR598_2 := Aside0.mk hi598_2
                  have HC598_2 := Aside0.mk hl598_2
                  clear hi598_2 hl598_2
                  replace p598 := eq_true p598
                  replace q598 := eq_true q598
                  have p599 : 0 ≤ (x5_1 : Int) := of_decide_eq_true (by first | (with_reducible assumption) | assumption)
                  have q599 : x5_1 < (l0.length : Int) := of_decide_eq_true (by first | (with_reducible assumption) | assumption)
                  obtain ⟨ad599, A599_2, c599_2, e599, hx599_0, hx599_1, hx599_2, hx599_3, hl599_2, hi599_2⟩ := at_T107 HR0.out x5_1 p599 q599
                  obtain rfl : ad598 = ad599 := (by injection e599)
                  have HR599_2 := Aside0.mk hi599_2
                  have HC599_2 := Aside0.mk hl599_2
                  clear hi599_2 hl599_2
                  replace p599 := eq_true p599
                  replace q599 := eq_true q599
                  have ea_ := Option.some.inj (hx598_2.symm.trans hx599_2)
                  injection ea_ with ea_ en_ ec_
                  subst ea_
                  subst ec_
                  clear en_
                  have p600 : 0 ≤ (x5_1 : Int) := of_decide_eq_true (by first | (with_reducible assumption) | assumption)
                  have q600 : x5_1 < (l0.length : Int) := of_decide_eq_true (by first | (with_reducible assumption) | assumption)
                  obtain ⟨ad600, A600_2, c600_2, e600, hx600_0, hx600_1, hx600_2, hx600_3, hl600_2, hi600_2⟩ := at_T107 HR0.out x5_1 p600 q600
                  obtain rfl : ad598 = ad600 := (by injection e600)
                  have HR600_2 := Aside0.mk hi600_2
                  have HC600_2 := Aside0.mk hl600_2
                  clear hi600_2 hl600_2
                  replace p600 := eq_true p600
                  replace q600 := eq_true q600
                  have ea_ := Option.some.inj (hx598_2.symm.trans hx600_2)
                  injection ea_ with ea_ en_ ec_
                  subst ea_
                  subst ec_
                  clear en_
                  go_wp2_with (first | ((with_reducible refine gate_callee (f := 128) rfl ?_); refine goesL_ (some 39) rfl rfl Try.func128 (by kernel_rfl) rfl #[.slice A598_2 ((rd_T107 l0 x5_1).f0.f2).length c598_2, .int .i64 (wrap64 ((wrap64 (x1_1 + 1)) + 1))] rfl (by (try simp only [List.map_toArray, List.map_cons, List.map_nil]); first | done | rfl | (simp only [List.length_drop, List.length_take]; rfl)) ?_; (with_reducible refine (laws_heldMicroS.calls k1 _ _ ((rd_T107 l0 x5_1).f0.f2) (wrap64 ((wrap64 (x1_1 + 1)) + 1)) t601 _ ?side1 ?side2 A7.out).mono ?_); (case side1 => repeat (first | exact HR600_2.out | (with_reducible refine Kd.C_alloc ?_ _) | (with_reducible refine Kd.C_drewN ?_ _) | (with_reducible refine Kd.C_drew ?_))); (case side2 => exact HC600_2.out); rintro e w' ⟨rfl, ⟨nd, rfl⟩⟩; refine ⟨_, rfl, ?_⟩; have p602 : 0 ≤ (x5_1 : Int) := of_decide_eq_true (by first | (with_reducible assumption) | assumption); have q602 : x5_1 < (l0.length : Int) := of_decide_eq_true (by first | (with_reducible assumption) | assumption); obtain ⟨ad602, A602_2, c602_2, e602, hx602_0, hx602_1, hx602_2, hx602_3, hl602_2, hi602_2⟩ := at_T107 HR0.out x5_1 p602 q602; obtain rfl : ad598 = ad602 := (by injection e602); have HR602_2 := Aside0.mk hi602_2; have HC602_2 := Aside0.mk hl602_2; clear hi602_2 hl602_2; replace p602 := eq_true p602; replace q602 := eq_true q602; have ea_ := Option.some.inj (hx598_2.symm.trans hx602_2); injection ea_ with ea_ en_ ec_; subst ea_; subst ec_; clear en_))
                  go_roundg k1
                  case measure => have := HK1.out; omega
                  case rel => exact ⟨(wrap64 (t601 + 1)), (wrap64 (x5_1 + 1)), (by first | rfl | (simp; done) | (simp [*]; done)), (by first | rfl | (simp; done) | (simp [*]; done)), H', ⟨by have := HK1.out; omega⟩, by repeat (first | exact Drawn0.refl _ | apply Drawn0.step)⟩
                · rw [if_neg c9] at H
                  have c9b0 : (((rd_T107 l0 x5_1).f1) == t601) = false := beq_eq_false_iff_ne.mpr c9
                  have c9b1 : (((rd_T107 l0 x5_1).f1) != t601) = true := bne_iff_ne.mpr c9
                  obtain rfl := Option.some.inj H
                  have p598 : 0 ≤ (x5_1 : Int) := of_decide_eq_true (by first | (with_reducible assumption) | assumption)
                  have q598 : x5_1 < (l0.length : Int) := of_decide_eq_true (by first | (with_reducible assumption) | assumption)
                  obtain ⟨ad598, A598_2, c598_2, e598, hx598_0, hx598_1, hx598_2, hx598_3, hl598_2, hi598_2⟩ := at_T107 HR0.out x5_1 p598 q598
                  cases e598
                  have HR598_2 := Aside0.mk hi598_2
                  have HC598_2 := Aside0.mk hl598_2
                  clear hi598_2 hl598_2
                  replace p598 := eq_true p598
                  replace q598 := eq_true q598
                  have p599 : 0 ≤ (x5_1 : Int) := of_decide_eq_true (by first | (with_reducible assumption) | assumption)
                  have q599 : x5_1 < (l0.length : Int) := of_decide_eq_true (by first | (with_reducible assumption) | assumption)
                  obtain ⟨ad599, A599_2, c599_2, e599, hx599_0, hx599_1, hx599_2, hx599_3, hl599_2, hi599_2⟩ := at_T107 HR0.out x5_1 p599 q599
                  obtain rfl : ad598 = ad599 := (by injection e599)
                  have HR599_2 := Aside0.mk hi599_2
                  have HC599_2 := Aside0.mk hl599_2
                  clear hi599_2 hl599_2
                  replace p599 := eq_true p599
                  replace q599 := eq_true q599
                  have ea_ := Option.some.inj (hx598_2.symm.trans hx599_2)
                  injection ea_ with ea_ en_ ec_
                  subst ea_
                  subst ec_
                  clear en_
                  have p600 : 0 ≤ (x5_1 : Int) := of_decide_eq_true (by first | (with_reducible assumption) | assumption)
                  have q600 : x5_1 < (l0.length : Int) := of_decide_eq_true (by first | (with_reducible assumption) | assumption)
                  obtain ⟨ad600, A600_2, c600_2, e600, hx600_0, hx600_1, hx600_2, hx600_3, hl600_2, hi600_2⟩ := at_T107 HR0.out x5_1 p600 q600
                  obtain rfl : ad598 = ad600 := (by injection e600)
                  have HR600_2 := Aside0.mk hi600_2
                  have HC600_2 := Aside0.mk hl600_2
                  clear hi600_2 hl600_2
                  replace p600 := eq_true p600
                  replace q600 := eq_true q600
                  have ea_ := Option.some.inj (hx598_2.symm.trans hx600_2)
                  injection ea_ with ea_ en_ ec_
                  subst ea_
                  subst ec_
                  clear en_
                  go_wp2_with (first | ((with_reducible refine gate_callee (f := 128) rfl ?_); refine goesL_ (some 39) rfl rfl Try.func128 (by kernel_rfl) rfl #[.slice A598_2 ((rd_T107 l0 x5_1).f0.f2).length c598_2, .int .i64 (wrap64 ((wrap64 (x1_1 + 1)) + 1))] rfl (by (try simp only [List.map_toArray, List.map_cons, List.map_nil]); first | done | rfl | (simp only [List.length_drop, List.length_take]; rfl)) ?_; (with_reducible refine (laws_heldMicroS.calls k1 _ _ ((rd_T107 l0 x5_1).f0.f2) (wrap64 ((wrap64 (x1_1 + 1)) + 1)) t601 _ ?side1 ?side2 A7.out).mono ?_); (case side1 => repeat (first | exact HR600_2.out | (with_reducible refine Kd.C_alloc ?_ _) | (with_reducible refine Kd.C_drewN ?_ _) | (with_reducible refine Kd.C_drew ?_))); (case side2 => exact HC600_2.out); rintro e w' ⟨rfl, ⟨nd, rfl⟩⟩; refine ⟨_, rfl, ?_⟩; have p602 : 0 ≤ (x5_1 : Int) := of_decide_eq_true (by first | (with_reducible assumption) | assumption); have q602 : x5_1 < (l0.length : Int) := of_decide_eq_true (by first | (with_reducible assumption) | assumption); obtain ⟨ad602, A602_2, c602_2, e602, hx602_0, hx602_1, hx602_2, hx602_3, hl602_2, hi602_2⟩ := at_T107 HR0.out x5_1 p602 q602; obtain rfl : ad598 = ad602 := (by injection e602); have HR602_2 := Aside0.mk hi602_2; have HC602_2 := Aside0.mk hl602_2; clear hi602_2 hl602_2; replace p602 := eq_true p602; replace q602 := eq_true q602; have ea_ := Option.some.inj (hx598_2.symm.trans hx602_2); injection ea_ with ea_ en_ ec_; subst ea_; subst ec_; clear en_))
                  go_ret
                  exact ⟨by first | rfl | (simp; done) | (simp [*]; done), by repeat (first | exact Drawn0.refl _ | apply Drawn0.step)⟩
            · rw [if_neg c6] at H
              have c6b0 : (((rd_T107 l0 x5_1).f0.f1) == (wrap64 (x1_1 + 1))) = false := beq_eq_false_iff_ne.mpr c6
              have c6b1 : (((rd_T107 l0 x5_1).f0.f1) != (wrap64 (x1_1 + 1))) = true := bne_iff_ne.mpr c6
              obtain rfl := Option.some.inj H
              have p598 : 0 ≤ (x5_1 : Int) := of_decide_eq_true (by first | (with_reducible assumption) | assumption)
              have q598 : x5_1 < (l0.length : Int) := of_decide_eq_true (by first | (with_reducible assumption) | assumption)
              obtain ⟨ad598, A598_2, c598_2, e598, hx598_0, hx598_1, hx598_2, hx598_3, hl598_2, hi598_2⟩ := at_T107 HR0.out x5_1 p598 q598
              cases e598
              have HR598_2 := Aside0.mk hi598_2
              have HC598_2 := Aside0.mk hl598_2
              clear hi598_2 hl598_2
              replace p598 := eq_true p598
              replace q598 := eq_true q598
              have p599 : 0 ≤ (x5_1 : Int) := of_decide_eq_true (by first | (with_reducible assumption) | assumption)
              have q599 : x5_1 < (l0.length : Int) := of_decide_eq_true (by first | (with_reducible assumption) | assumption)
              obtain ⟨ad599, A599_2, c599_2, e599, hx599_0, hx599_1, hx599_2, hx599_3, hl599_2, hi599_2⟩ := at_T107 HR0.out x5_1 p599 q599
              obtain rfl : ad598 = ad599 := (by injection e599)
              have HR599_2 := Aside0.mk hi599_2
              have HC599_2 := Aside0.mk hl599_2
              clear hi599_2 hl599_2
              replace p599 := eq_true p599
              replace q599 := eq_true q599
              have ea_ := Option.some.inj (hx598_2.symm.trans hx599_2)
              injection ea_ with ea_ en_ ec_
              subst ea_
              subst ec_
              clear en_
              go_wp2
              go_ret
              exact ⟨by first | rfl | (simp; done) | (simp [*]; done), by repeat (first | exact Drawn0.refl _ | apply Drawn0.step)⟩
          · rw [if_neg c5] at H
            have c5b0 : (((rd_T107 l0 x5_1).f0.f0) == x1_1) = false := beq_eq_false_iff_ne.mpr c5
            have c5b1 : (((rd_T107 l0 x5_1).f0.f0) != x1_1) = true := bne_iff_ne.mpr c5
            obtain rfl := Option.some.inj H
            have p598 : 0 ≤ (x5_1 : Int) := of_decide_eq_true (by first | (with_reducible assumption) | assumption)
            have q598 : x5_1 < (l0.length : Int) := of_decide_eq_true (by first | (with_reducible assumption) | assumption)
            obtain ⟨ad598, A598_2, c598_2, e598, hx598_0, hx598_1, hx598_2, hx598_3, hl598_2, hi598_2⟩ := at_T107 HR0.out x5_1 p598 q598
            cases e598
            have HR598_2 := Aside0.mk hi598_2
            have HC598_2 := Aside0.mk hl598_2
            clear hi598_2 hl598_2
            replace p598 := eq_true p598
            replace q598 := eq_true q598
            go_wp2
            go_ret
            exact ⟨by first | rfl | (simp; done) | (simp [*]; done), by repeat (first | exact Drawn0.refl _ | apply Drawn0.step)⟩
        · rw [if_neg c4] at H
          exact absurd H (by simp)
      · rw [if_neg c3] at H
        have c3b0 : decide (x5_1 < (l0.length : Int)) = false := decide_eq_false c3
        clear c3
        obtain rfl := Option.some.inj H
        go_wp2
        go_ret
        exact ⟨by first | rfl | (simp; done) | (simp [*]; done), by repeat (first | exact Drawn0.refl _ | apply Drawn0.step)⟩

/-! ### laws_heldStore: function 45 -/
def laws_heldStore.f (k : Nat) (a0_0 : Int) (a0_1 : Int) (l0_2 : List (S107)) (a1 : Int) : Option (Int) := (laws_heldCachedS.f k l0_2 a1).bind fun t604 => (if t604 < 0 then (some (-1)) else (some t604))
theorem laws_heldStore.mono : ∀ a0 a1 a2 a3 k, LeO (laws_heldStore.f k a0 a1 a2 a3) (laws_heldStore.f (k + 1) a0 a1 a2 a3) := by
  intro a0 a1 a2 a3 k
  unfold laws_heldStore.f
  repeat' first
      | (with_reducible exact laws_heldCachedS.mono _ _ _)
      | (with_reducible exact LeO.refl _)
      | (with_reducible exact LeO.none _)
      | (with_reducible refine LeO.ite ?_ ?_)
      | (with_reducible refine LeO.bind ?_ (fun _ => ?_))
      | exact laws_heldCachedS.mono _ _ _
      | exact LeO.none _
      | refine LeO.ite ?_ ?_
      | refine LeO.bind ?_ (fun _ => ?_)
set_option maxHeartbeats 8000000 in
set_option maxRecDepth 100000 in
theorem laws_heldStore.calls (k : Nat) (a0_0 : Int) (a0_1 : Int) (A0_2 : Option Addr) (c0_2 : Nat) (l0_2 : List (S107)) (a1 : Int) (r : Int) (w : World) (hr0_2 : Kd.C k107 w A0_2 l0_2.length l0_2) (hc0_2 : l0_2.length ≤ c0_2) (h : laws_heldStore.f k a0_0 a0_1 l0_2 a1 = some r) :
    Calls Try.prog 45 #[.agg #[.int .i64 a0_0, .int .i64 a0_1, .slice A0_2 l0_2.length c0_2], .int .i64 a1] w fun e w' => e = .returned (.int .i64 r) ∧ Below w.heap.size w w' := by
  have hu61 := Try.underlying61
  have HR0_2 := Aside0.mk hr0_2
  have HC0_2 := Aside0.mk hc0_2
  clear hr0_2 hc0_2
  have HB := Aside0.mk (Below.refl w.heap.size w)
  have H : ((laws_heldCachedS.f k l0_2 a1).bind fun t604 => (if t604 < 0 then (some (-1)) else (some t604))) = some r := h
  clear h
  replace H := Option.bind_eq_some_iff.mp H
  obtain ⟨t604, A30, H⟩ := H
  replace H : (if t604 < 0 then (some (-1)) else (some t604)) = some r := H
  have A3 := Aside0.mk A30
  clear A30
  by_cases c4 : t604 < 0
  · rw [if_pos c4] at H
    have c4b0 : decide (t604 < 0) = true := decide_eq_true c4
    clear c4
    obtain rfl := Option.some.inj H
    go_enter Try.func45, Try.ntmps45
    go_wp2_with (first | ((with_reducible refine gate_dst (N := 2) rfl ?_); refine box_event ?hg (N := 2) ?hd (cs := #[.int .i64 a0_0, .int .i64 a0_1, .slice A0_2 l0_2.length c0_2]) (t := 61) ?hr ?_; (case hd => rfl); (case hg => rfl); (case hr => first | (go_simp; done) | (go_simp; rfl)); intro gb603 hg w5 hbox hb; have n0_ := Aside0.mk (below_step (by repeat (first | (with_reducible first | exact HB.out | apply below_alloc | apply pw_below_drewN | apply below_drew1) | exact HB.out)) hb); have n1_ := Aside0.mk (hbox); have n2_ := Aside0.mk ((by rw [hg]; exact (below_size (by repeat (first | (with_reducible first | exact HB.out | apply below_alloc | apply pw_below_drewN | apply below_drew1) | exact HB.out))) : w.heap.size ≤ gb603)); have n3_ := Aside0.mk ((by rw [hg]; exact (below_size (by repeat (first | (with_reducible first | exact HB.out | apply below_alloc | apply pw_below_drewN | apply below_drew1) | exact HB.out))) : w.heap.size ≤ gb603)); clear HB; have HB := n0_; have BK603 := n1_; have GW603 := n2_; have GE603 := n3_; clear n0_ n1_ n2_ n3_; clear hb hbox hg; have hcz6_0 : w5.cell? ⟨gb603, 0, none⟩ = some (.int .i64 a0_0) := (blk_cell BK603.out 0).trans rfl; have hcz6_1 : w5.cell? ⟨gb603, 1, none⟩ = some (.int .i64 a0_1) := (blk_cell BK603.out 1).trans rfl; have hcz6_2 : w5.cell? ⟨gb603, 2, none⟩ = some (.slice A0_2 l0_2.length c0_2) := (blk_cell BK603.out 2).trans rfl; have hfz6_0 := blk_frozen BK603.out 0; have hfz6_1 := blk_frozen BK603.out 1; have hfz6_2 := blk_frozen BK603.out 2) | ((with_reducible refine gate_callee (f := 89) rfl ?_); refine goesL_ (some 8) rfl rfl Try.func89 (by kernel_rfl) rfl #[.slice A0_2 l0_2.length c0_2, .int .i64 a1] rfl (by (try simp only [List.map_toArray, List.map_cons, List.map_nil]); first | done | rfl | (simp only [List.length_drop, List.length_take]; rfl)) ?_; (with_reducible refine (laws_heldCachedS.calls k _ _ l0_2 a1 t604 _ ?side1 ?side2 A3.out).mono ?_); (case side1 => repeat (first | exact (Kd.C_below HR0_2.out HB.out) | (with_reducible refine Kd.C_alloc ?_ _) | (with_reducible refine Kd.C_drewN ?_ _) | (with_reducible refine Kd.C_drew ?_))); (case side2 => exact HC0_2.out); rintro e w' ⟨rfl, ⟨nd, rfl⟩⟩; refine ⟨_, rfl, ?_⟩))
    go_ret
    exact ⟨by first | rfl | (simp [errW_none, errW_some] <;> rfl) | (simp [*, errW_none, errW_some] <;> rfl), by repeat (first | (with_reducible first | exact HB.out | apply below_alloc | apply pw_below_drewN | apply below_drew1 | refine below_set ?_ GE603.out) | exact HB.out)⟩
  · rw [if_neg c4] at H
    have c4b0 : decide (t604 < 0) = false := decide_eq_false c4
    clear c4
    obtain rfl := Option.some.inj H
    go_enter Try.func45, Try.ntmps45
    go_wp2_with (first | ((with_reducible refine gate_dst (N := 2) rfl ?_); refine box_event ?hg (N := 2) ?hd (cs := #[.int .i64 a0_0, .int .i64 a0_1, .slice A0_2 l0_2.length c0_2]) (t := 61) ?hr ?_; (case hd => rfl); (case hg => rfl); (case hr => first | (go_simp; done) | (go_simp; rfl)); intro gb603 hg w7 hbox hb; have n0_ := Aside0.mk (below_step (by repeat (first | (with_reducible first | exact HB.out | apply below_alloc | apply pw_below_drewN | apply below_drew1) | exact HB.out)) hb); have n1_ := Aside0.mk (hbox); have n2_ := Aside0.mk ((by rw [hg]; exact (below_size (by repeat (first | (with_reducible first | exact HB.out | apply below_alloc | apply pw_below_drewN | apply below_drew1) | exact HB.out))) : w.heap.size ≤ gb603)); have n3_ := Aside0.mk ((by rw [hg]; exact (below_size (by repeat (first | (with_reducible first | exact HB.out | apply below_alloc | apply pw_below_drewN | apply below_drew1) | exact HB.out))) : w.heap.size ≤ gb603)); clear HB; have HB := n0_; have BK603 := n1_; have GW603 := n2_; have GE603 := n3_; clear n0_ n1_ n2_ n3_; clear hb hbox hg; have hcz8_0 : w7.cell? ⟨gb603, 0, none⟩ = some (.int .i64 a0_0) := (blk_cell BK603.out 0).trans rfl; have hcz8_1 : w7.cell? ⟨gb603, 1, none⟩ = some (.int .i64 a0_1) := (blk_cell BK603.out 1).trans rfl; have hcz8_2 : w7.cell? ⟨gb603, 2, none⟩ = some (.slice A0_2 l0_2.length c0_2) := (blk_cell BK603.out 2).trans rfl; have hfz8_0 := blk_frozen BK603.out 0; have hfz8_1 := blk_frozen BK603.out 1; have hfz8_2 := blk_frozen BK603.out 2) | ((with_reducible refine gate_callee (f := 89) rfl ?_); refine goesL_ (some 8) rfl rfl Try.func89 (by kernel_rfl) rfl #[.slice A0_2 l0_2.length c0_2, .int .i64 a1] rfl (by (try simp only [List.map_toArray, List.map_cons, List.map_nil]); first | done | rfl | (simp only [List.length_drop, List.length_take]; rfl)) ?_; (with_reducible refine (laws_heldCachedS.calls k _ _ l0_2 a1 t604 _ ?side1 ?side2 A3.out).mono ?_); (case side1 => repeat (first | exact (Kd.C_below HR0_2.out HB.out) | (with_reducible refine Kd.C_alloc ?_ _) | (with_reducible refine Kd.C_drewN ?_ _) | (with_reducible refine Kd.C_drew ?_))); (case side2 => exact HC0_2.out); rintro e w' ⟨rfl, ⟨nd, rfl⟩⟩; refine ⟨_, rfl, ?_⟩))
    go_ret
    exact ⟨by first | rfl | (simp [errW_none, errW_some] <;> rfl) | (simp [*, errW_none, errW_some] <;> rfl), by repeat (first | (with_reducible first | exact HB.out | apply below_alloc | apply pw_below_drewN | apply below_drew1 | refine below_set ?_ GE603.out) | exact HB.out)⟩

end Go.Proofs.Ytopmacbjbjaekaa.H
