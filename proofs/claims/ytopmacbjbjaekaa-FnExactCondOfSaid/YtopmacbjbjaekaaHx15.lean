-- Made by this session's program gprint.py out of the translation. Not trusted: Lean checks it.
import Derived.Test.YtopmacbjbjaekaaHx0
import Derived.Test.YtopmacbjbjaekaaHx14
namespace Go.Proofs.Ytopmacbjbjaekaa.H
open Go.RowKit Go.Proofs.YtopmacbjbjaekaaW.PrintWords Go.Proofs.YtopmacbjbjaekaaW.PrintLast Go.Proofs.YtopmacbjbjaekaaW.PrintMore
attribute [local go_sem] max2_int min2_int max_two min_two max_three min_three max_four min_four   -- for this text's walks alone
set_option linter.unusedVariables false
set_option linter.unusedSimpArgs false

/-! ### impl_coming: function 142 -/
def impl_coming.j0 : Nat → Int → Int → Int → Bool → Option (Int)
  | 0, _, _, _, _ => none
  | k + 1, x2, x4, x11, x19 => if x19 = true then (some x4) else (if x11 = 6 then (some (wrap64 (Int.tdiv x2 16))) else (if x11 = 7 then (some (wrap64 (Int.tdiv x2 16))) else (some 0)))
def impl_coming.f (k : Nat) (a0 : Int) (a1 : Int) (a2 : Int) (a3 : Int) (a4 : Int) : Option (Int) := if a0 = 1 then (if 0 ≤ (wrap64 ((wrap64 (8 * a1)) - 1)) then (some (shr .i64 a3 (wrap64 ((wrap64 (8 * a1)) - 1)))) else (none)) else (if a0 = 4 then (impl_coming.j0 k a2 a4 a0 (a0 == 4)) else (impl_coming.j0 k a2 a4 a0 (a0 == 5)))
theorem impl_coming.mono_l : ∀ k, (∀ y0 y1 y2 y3, LeO (impl_coming.j0 k y0 y1 y2 y3) (impl_coming.j0 (k + 1) y0 y1 y2 y3))
  | 0 => fun _ _ _ _ r h => by simp [impl_coming.j0] at h
  | k + 1 => by
    have ih0 := impl_coming.mono_l k
    · intro y0 y1 y2 y3
      unfold impl_coming.j0
      repeat' first
      | (with_reducible exact ih0 _ _ _ _)
      | (with_reducible exact LeO.refl _)
      | (with_reducible exact LeO.none _)
      | (with_reducible refine LeO.ite ?_ ?_)
      | (with_reducible refine LeO.bind ?_ (fun _ => ?_))
      | exact ih0 _ _ _ _
      | exact LeO.none _
      | refine LeO.ite ?_ ?_
      | refine LeO.bind ?_ (fun _ => ?_)
theorem impl_coming.mono : ∀ a0 a1 a2 a3 a4 k, LeO (impl_coming.f k a0 a1 a2 a3 a4) (impl_coming.f (k + 1) a0 a1 a2 a3 a4) := by
  intro a0 a1 a2 a3 a4 k
  have ih0 := impl_coming.mono_l k
  unfold impl_coming.f
  repeat' first
      | (with_reducible exact ih0 _ _ _ _)
      | (with_reducible exact LeO.refl _)
      | (with_reducible exact LeO.none _)
      | (with_reducible refine LeO.ite ?_ ?_)
      | (with_reducible refine LeO.bind ?_ (fun _ => ?_))
      | exact ih0 _ _ _ _
      | exact LeO.none _
      | refine LeO.ite ?_ ?_
      | refine LeO.bind ?_ (fun _ => ?_)
set_option maxHeartbeats 8000000 in
set_option maxRecDepth 100000 in
theorem impl_coming.calls (k : Nat) (a0 : Int) (a1 : Int) (a2 : Int) (a3 : Int) (a4 : Int) (r : Int) (w : World) (h : impl_coming.f k a0 a1 a2 a3 a4 = some r) :
    Calls Try.prog 142 #[.int .i64 a0, .int .i64 a1, .int .i64 a2, .int .i64 a3, .int .i64 a4] w fun e w' => e = .returned (.int .i64 r) ∧ Drawn0 w w' := by
  have H : (if a0 = 1 then (if 0 ≤ (wrap64 ((wrap64 (8 * a1)) - 1)) then (some (shr .i64 a3 (wrap64 ((wrap64 (8 * a1)) - 1)))) else (none)) else (if a0 = 4 then (impl_coming.j0 k a2 a4 a0 (a0 == 4)) else (impl_coming.j0 k a2 a4 a0 (a0 == 5)))) = some r := h
  clear h
  by_cases c6 : a0 = 1
  · rw [if_pos c6] at H
    have c6b0 : (a0 == 1) = true := beq_iff_eq.mpr c6
    have c6b1 : (a0 != 1) = false := bne_eq_false_iff_eq.mpr c6
    clear c6
    obtain ⟨ji7, hji7⟩ : ∃ j_ : Int, (wrap64 ((wrap64 (8 * a1)) - 1)) = j_ := ⟨_, rfl⟩
    replace H : (if 0 ≤ (ji7) then (some (shr .i64 a3 (ji7))) else (none)) = some r := by first | (rw [hji7] at H; exact H) | (simp only [hji7] at H ⊢; exact H)
    have hji7w : (IntKind.i64.wrap ((wrap64 (8 * a1)) - 1)) = ji7 := (i64_w _).trans hji7
    by_cases c8 : 0 ≤ (ji7)
    · rw [if_pos c8] at H
      have c8b0 := eq_true c8
      have c8b1 : decide (0 ≤ (ji7)) = true := decide_eq_true c8
      clear c8
      obtain ⟨ji9, hji9⟩ : ∃ j_ : Int, (shr .i64 a3 (ji7)) = j_ := ⟨_, rfl⟩
      replace H : (some ji9) = some r := by first | (rw [hji9] at H; exact H) | (simp only [hji9] at H ⊢; exact H)
      have hji9_ : (a3 / 2 ^ min (ji7).toNat 64) = ji9 := hji9
      have hji9z : (ji7) ≤ 64 → (a3 / 2 ^ (ji7).toNat) = ji9 := shr_small hji9
      obtain rfl := Option.some.inj H
      go_enter Try.func142, Try.ntmps142
      go_wp2
      go_ret
      exact ⟨by first | rfl | (simp; done) | (simp only [← hji7, ← hji9] <;> (first | rfl | simp)) | (simp [*]; done), by repeat (first | exact Drawn0.refl _ | apply Drawn0.step)⟩
    · rw [if_neg c8] at H
      exact absurd H (by simp)
  · rw [if_neg c6] at H
    have c6b0 : (a0 == 1) = false := beq_eq_false_iff_ne.mpr c6
    have c6b1 : (a0 != 1) = true := bne_iff_ne.mpr c6
    have HC10 := Aside0.mk H
    clear H
    go_enter Try.func142, Try.ntmps142
    go_upto_if 19 with (fail)
    go_cut [19] (fun v19 wc => ∃ (kq : Nat) (x19_9 : Bool), v19 = .bool x19_9 ∧ Aside0 (impl_coming.j0 kq a2 a4 a0 x19_9 = some r) ∧ Aside0 (kq ≤ k) ∧ Drawn0 w wc)
    case first =>
      have H := HC10.out
      clear HC10
      by_cases c11 : a0 = 4
      · rw [if_pos c11] at H
        have c11b0 : (a0 == 4) = true := beq_iff_eq.mpr c11
        have c11b1 : (a0 != 4) = false := bne_eq_false_iff_eq.mpr c11
        clear c11
        (first | rw [c11b0] | (simp only [i64_w, i32_w]; rw [c11b0]) | skip)
        have H' := Aside0.mk H
        clear H
        go_wp2
        go_meet
        case rel => exact ⟨_, ((a0 == 4)), (by first | rfl | (simp; done) | (simp [*]; done)), (by first | exact H' | (rw [hji7]; exact H') | (rw [hji9]; exact H')), ⟨by first | omega | exact Nat.le_refl _⟩, by repeat (first | exact Drawn0.refl _ | apply Drawn0.step)⟩
      · rw [if_neg c11] at H
        have c11b0 : (a0 == 4) = false := beq_eq_false_iff_ne.mpr c11
        have c11b1 : (a0 != 4) = true := bne_iff_ne.mpr c11
        (first | rw [c11b0] | (simp only [i64_w, i32_w]; rw [c11b0]) | skip)
        have H' := Aside0.mk H
        clear H
        go_wp2
        go_meet
        case rel => exact ⟨_, ((a0 == 5)), (by first | rfl | (simp; done) | (simp [*]; done)), (by first | exact H' | (rw [hji7]; exact H') | (rw [hji9]; exact H')), ⟨by first | omega | exact Nat.le_refl _⟩, by repeat (first | exact Drawn0.refl _ | apply Drawn0.step)⟩
    case rest =>
      clear HC10
      try clear c1
      try clear p2
      try clear c6
      try clear c6b0
      try clear c6b1
      try clear p6
      try clear c8
      try clear c8b0
      try clear c8b1
      try clear c11
      try clear c11b0
      try clear c11b1
      obtain ⟨kq, x19_9, rfl, HA, HJ9, ⟨mc9, rfl⟩⟩ := hcut
      cases kq with
      | zero => exact absurd HA.out (by simp [impl_coming.j0])
      | succ kj9 =>
        have H := HA.out
        clear HA
        simp only [impl_coming.j0] at H
        by_cases c12 : x19_9 = true
        · subst c12
          have H1 : (some a4) = some r := by rw [if_pos rfl] at H; exact H
          clear H
          have H := H1
          clear H1
          obtain rfl := Option.some.inj H
          go_wp2
          go_ret
          exact ⟨by first | rfl | (simp; done) | (simp [*]; done), by repeat (first | exact Drawn0.refl _ | apply Drawn0.step)⟩
        · replace c12 := Bool.eq_false_iff.mpr c12
          subst c12
          have H1 : (if a0 = 6 then (some (wrap64 (Int.tdiv a2 16))) else (if a0 = 7 then (some (wrap64 (Int.tdiv a2 16))) else (some 0))) = some r := by rw [if_neg (show ¬ (false = true) by decide)] at H; exact H
          clear H
          have H := H1
          clear H1
          by_cases c13 : a0 = 6
          · rw [if_pos c13] at H
            have c13b0 : (a0 == 6) = true := beq_iff_eq.mpr c13
            have c13b1 : (a0 != 6) = false := bne_eq_false_iff_eq.mpr c13
            clear c13
            obtain rfl := Option.some.inj H
            go_wp2
            go_ret
            exact ⟨by first | rfl | (simp; done) | (simp [*]; done), by repeat (first | exact Drawn0.refl _ | apply Drawn0.step)⟩
          · rw [if_neg c13] at H
            have c13b0 : (a0 == 6) = false := beq_eq_false_iff_ne.mpr c13
            have c13b1 : (a0 != 6) = true := bne_iff_ne.mpr c13
            by_cases c14 : a0 = 7
            · rw [if_pos c14] at H
              have c14b0 : (a0 == 7) = true := beq_iff_eq.mpr c14
              have c14b1 : (a0 != 7) = false := bne_eq_false_iff_eq.mpr c14
              clear c14
              obtain rfl := Option.some.inj H
              go_wp2
              go_ret
              exact ⟨by first | rfl | (simp; done) | (simp [*]; done), by repeat (first | exact Drawn0.refl _ | apply Drawn0.step)⟩
            · rw [if_neg c14] at H
              have c14b0 : (a0 == 7) = false := beq_eq_false_iff_ne.mpr c14
              have c14b1 : (a0 != 7) = true := bne_iff_ne.mpr c14
              obtain rfl := Option.some.inj H
              go_wp2
              go_ret
              exact ⟨by first | rfl | (simp; done) | (simp [*]; done), by repeat (first | exact Drawn0.refl _ | apply Drawn0.step)⟩

/-! ### impl_shiftOnce: function 113 -/
mutual
def impl_shiftOnce.j0 : Nat → Int → Int → Int → Int → Int → Int → Option (Int × Int)
  | 0, _, _, _, _, _, _ => none
  | k + 1, x0, x1, x2, x3, x10, x11 => (impl_coming.f k x0 x1 x2 x3 x11).bind fun t264 => (if 0 ≤ x10 then ((impl_isLeft.f x0).bind fun t265 => (if t265 = true then ((impl_limitOf.f x1).bind fun t266 => (impl_shiftOnce.j1 k x0 x1 x2 x3 x10 x11 (Go.bits .or .i64 (Go.bits .and .i64 (wrap64 (x3 * 2)) (wrap64 (t266 - 1))) t264))) else (impl_shiftOnce.j1 k x0 x1 x2 x3 x10 x11 (Go.bits .or .i64 (x3 / 2) (shl .i64 t264 x10))))) else (none))
def impl_shiftOnce.j1 : Nat → Int → Int → Int → Int → Int → Int → Int → Option (Int × Int)
  | 0, _, _, _, _, _, _, _ => none
  | k + 1, x0, x1, x2, x3, x10, x11, x13 => if x0 = 4 then (impl_shiftOnce.j2 k x0 x1 x2 x3 x10 x11 x13 (wrap64 (x11 * 16)) true) else (impl_shiftOnce.j2 k x0 x1 x2 x3 x10 x11 x13 (wrap64 (x11 * 16)) (x0 == 5))
def impl_shiftOnce.j2 : Nat → Int → Int → Int → Int → Int → Int → Int → Int → Bool → Option (Int × Int)
  | 0, _, _, _, _, _, _, _, _, _ => none
  | k + 1, x0, x1, x2, x3, x10, x11, x13, x14, x55 => if x55 = true then (if x0 = 0 then (if 0 ≤ x10 then ((impl_flag.f ((shr .i64 x13 x10) != (shr .i64 x3 x10)) 2).bind fun t267 => ((impl_signs.f x1 x13).bind fun t268 => (some (x13, Go.bits .or .i64 (Go.bits .or .i64 (Go.bits .or .i64 (wrap64 (x11 * 1)) (Go.bits .and .i64 x2 16)) t267) t268)))) else (none)) else ((impl_flag.f false 2).bind fun t269 => ((impl_signs.f x1 x13).bind fun t270 => (some (x13, Go.bits .or .i64 (Go.bits .or .i64 (Go.bits .or .i64 (wrap64 (x11 * 1)) (Go.bits .and .i64 x2 16)) t269) t270))))) else (if x0 = 0 then (if 0 ≤ x10 then ((impl_flag.f ((shr .i64 x13 x10) != (shr .i64 x3 x10)) 2).bind fun t271 => ((impl_signs.f x1 x13).bind fun t272 => (some (x13, Go.bits .or .i64 (Go.bits .or .i64 (Go.bits .or .i64 (wrap64 (x11 * 1)) x14) t271) t272)))) else (none)) else ((impl_flag.f false 2).bind fun t273 => ((impl_signs.f x1 x13).bind fun t274 => (some (x13, Go.bits .or .i64 (Go.bits .or .i64 (Go.bits .or .i64 (wrap64 (x11 * 1)) x14) t273) t274)))))
end
def impl_shiftOnce.f (k : Nat) (a0 : Int) (a1 : Int) (a2 : Int) (a3 : Int) : Option (Int × Int) := (impl_isLeft.f a0).bind fun t263 => (if t263 = true then (if 0 ≤ (wrap64 ((wrap64 (8 * a1)) - 1)) then (impl_shiftOnce.j0 k a0 a1 a2 a3 (wrap64 ((wrap64 (8 * a1)) - 1)) (shr .i64 a3 (wrap64 ((wrap64 (8 * a1)) - 1)))) else (none)) else (impl_shiftOnce.j0 k a0 a1 a2 a3 (wrap64 ((wrap64 (8 * a1)) - 1)) (Go.bits .and .i64 a3 1)))
theorem impl_shiftOnce.mono_l : ∀ k, (∀ y0 y1 y2 y3 y4 y5, LeO (impl_shiftOnce.j0 k y0 y1 y2 y3 y4 y5) (impl_shiftOnce.j0 (k + 1) y0 y1 y2 y3 y4 y5)) ∧ (∀ y0 y1 y2 y3 y4 y5 y6, LeO (impl_shiftOnce.j1 k y0 y1 y2 y3 y4 y5 y6) (impl_shiftOnce.j1 (k + 1) y0 y1 y2 y3 y4 y5 y6)) ∧ (∀ y0 y1 y2 y3 y4 y5 y6 y7 y8, LeO (impl_shiftOnce.j2 k y0 y1 y2 y3 y4 y5 y6 y7 y8) (impl_shiftOnce.j2 (k + 1) y0 y1 y2 y3 y4 y5 y6 y7 y8))
  | 0 => ⟨fun _ _ _ _ _ _ r h => by simp [impl_shiftOnce.j0] at h, fun _ _ _ _ _ _ _ r h => by simp [impl_shiftOnce.j1] at h, fun _ _ _ _ _ _ _ _ _ r h => by simp [impl_shiftOnce.j2] at h⟩
  | k + 1 => by
    obtain ⟨ih0, ih1, ih2⟩ := impl_shiftOnce.mono_l k
    refine ⟨?_, ?_, ?_⟩
    · intro y0 y1 y2 y3 y4 y5
      unfold impl_shiftOnce.j0
      repeat' first
      | (with_reducible exact ih0 _ _ _ _ _ _)
      | (with_reducible exact ih1 _ _ _ _ _ _ _)
      | (with_reducible exact ih2 _ _ _ _ _ _ _ _ _)
      | (with_reducible exact impl_coming.mono _ _ _ _ _ _)
      | (with_reducible exact LeO.refl _)
      | (with_reducible exact LeO.none _)
      | (with_reducible refine LeO.ite ?_ ?_)
      | (with_reducible refine LeO.bind ?_ (fun _ => ?_))
      | exact ih0 _ _ _ _ _ _
      | exact ih1 _ _ _ _ _ _ _
      | exact ih2 _ _ _ _ _ _ _ _ _
      | exact impl_coming.mono _ _ _ _ _ _
      | exact LeO.none _
      | refine LeO.ite ?_ ?_
      | refine LeO.bind ?_ (fun _ => ?_)
    · intro y0 y1 y2 y3 y4 y5 y6
      unfold impl_shiftOnce.j1
      repeat' first
      | (with_reducible exact ih0 _ _ _ _ _ _)
      | (with_reducible exact ih1 _ _ _ _ _ _ _)
      | (with_reducible exact ih2 _ _ _ _ _ _ _ _ _)
      | (with_reducible exact impl_coming.mono _ _ _ _ _ _)
      | (with_reducible exact LeO.refl _)
      | (with_reducible exact LeO.none _)
      | (with_reducible refine LeO.ite ?_ ?_)
      | (with_reducible refine LeO.bind ?_ (fun _ => ?_))
      | exact ih0 _ _ _ _ _ _
      | exact ih1 _ _ _ _ _ _ _
      | exact ih2 _ _ _ _ _ _ _ _ _
      | exact impl_coming.mono _ _ _ _ _ _
      | exact LeO.none _
      | refine LeO.ite ?_ ?_
      | refine LeO.bind ?_ (fun _ => ?_)
    · intro y0 y1 y2 y3 y4 y5 y6 y7 y8
      unfold impl_shiftOnce.j2
      repeat' first
      | (with_reducible exact ih0 _ _ _ _ _ _)
      | (with_reducible exact ih1 _ _ _ _ _ _ _)
      | (with_reducible exact ih2 _ _ _ _ _ _ _ _ _)
      | (with_reducible exact impl_coming.mono _ _ _ _ _ _)
      | (with_reducible exact LeO.refl _)
      | (with_reducible exact LeO.none _)
      | (with_reducible refine LeO.ite ?_ ?_)
      | (with_reducible refine LeO.bind ?_ (fun _ => ?_))
      | exact ih0 _ _ _ _ _ _
      | exact ih1 _ _ _ _ _ _ _
      | exact ih2 _ _ _ _ _ _ _ _ _
      | exact impl_coming.mono _ _ _ _ _ _
      | exact LeO.none _
      | refine LeO.ite ?_ ?_
      | refine LeO.bind ?_ (fun _ => ?_)
theorem impl_shiftOnce.mono : ∀ a0 a1 a2 a3 k, LeO (impl_shiftOnce.f k a0 a1 a2 a3) (impl_shiftOnce.f (k + 1) a0 a1 a2 a3) := by
  intro a0 a1 a2 a3 k
  obtain ⟨ih0, ih1, ih2⟩ := impl_shiftOnce.mono_l k
  unfold impl_shiftOnce.f
  repeat' first
      | (with_reducible exact ih0 _ _ _ _ _ _)
      | (with_reducible exact ih1 _ _ _ _ _ _ _)
      | (with_reducible exact ih2 _ _ _ _ _ _ _ _ _)
      | (with_reducible exact impl_coming.mono _ _ _ _ _ _)
      | (with_reducible exact LeO.refl _)
      | (with_reducible exact LeO.none _)
      | (with_reducible refine LeO.ite ?_ ?_)
      | (with_reducible refine LeO.bind ?_ (fun _ => ?_))
      | exact ih0 _ _ _ _ _ _
      | exact ih1 _ _ _ _ _ _ _
      | exact ih2 _ _ _ _ _ _ _ _ _
      | exact impl_coming.mono _ _ _ _ _ _
      | exact LeO.none _
      | refine LeO.ite ?_ ?_
      | refine LeO.bind ?_ (fun _ => ?_)
set_option maxHeartbeats 8000000 in
set_option maxRecDepth 100000 in
theorem impl_shiftOnce.calls (k : Nat) (a0 : Int) (a1 : Int) (a2 : Int) (a3 : Int) (r1 : Int) (r2 : Int) (w : World) (h : impl_shiftOnce.f k a0 a1 a2 a3 = some (r1, r2)) :
    Calls Try.prog 113 #[.int .i64 a0, .int .i64 a1, .int .i64 a2, .int .i64 a3] w fun e w' => e = .returned (.tuple #[.int .i64 r1, .int .i64 r2]) ∧ Drawn0 w w' := by
  have H : ((impl_isLeft.f a0).bind fun t263 => (if t263 = true then (if 0 ≤ (wrap64 ((wrap64 (8 * a1)) - 1)) then (impl_shiftOnce.j0 k a0 a1 a2 a3 (wrap64 ((wrap64 (8 * a1)) - 1)) (shr .i64 a3 (wrap64 ((wrap64 (8 * a1)) - 1)))) else (none)) else (impl_shiftOnce.j0 k a0 a1 a2 a3 (wrap64 ((wrap64 (8 * a1)) - 1)) (Go.bits .and .i64 a3 1)))) = some (r1, r2) := h
  clear h
  replace H := Option.bind_eq_some_iff.mp H
  obtain ⟨t263, A50, H⟩ := H
  replace H : (if t263 = true then (if 0 ≤ (wrap64 ((wrap64 (8 * a1)) - 1)) then (impl_shiftOnce.j0 k a0 a1 a2 a3 (wrap64 ((wrap64 (8 * a1)) - 1)) (shr .i64 a3 (wrap64 ((wrap64 (8 * a1)) - 1)))) else (none)) else (impl_shiftOnce.j0 k a0 a1 a2 a3 (wrap64 ((wrap64 (8 * a1)) - 1)) (Go.bits .and .i64 a3 1))) = some (r1, r2) := H
  have A5 := Aside0.mk A50
  clear A50
  have HC6 := Aside0.mk H
  clear H
  go_enter Try.func113, Try.ntmps113
  go_upto_if 22 with (first | (go_at_call 141; (with_reducible refine (impl_isLeft.calls a0 t263 _ A5.out).mono ?_); rintro e w' ⟨rfl, ⟨nd, rfl⟩⟩; (try first | exact ⟨rfl, _, World.drewN_drewN _ _ _⟩ | exact ⟨rfl, _, Eq.trans (World.drewN_drewN _ _ _) (congrArg (World.drewN _) (Nat.add_assoc _ _ _))⟩)))
  repeat (go_quiet (first | (go_at_call 141; (with_reducible refine (impl_isLeft.calls a0 t263 _ A5.out).mono ?_); rintro e w' ⟨rfl, ⟨nd, rfl⟩⟩; (try first | exact ⟨rfl, _, World.drewN_drewN _ _ _⟩ | exact ⟨rfl, _, Eq.trans (World.drewN_drewN _ _ _) (congrArg (World.drewN _) (Nat.add_assoc _ _ _))⟩))); go_upto_if 22 with (first | (go_at_call 141; (with_reducible refine (impl_isLeft.calls a0 t263 _ A5.out).mono ?_); rintro e w' ⟨rfl, ⟨nd, rfl⟩⟩; (try first | exact ⟨rfl, _, World.drewN_drewN _ _ _⟩ | exact ⟨rfl, _, Eq.trans (World.drewN_drewN _ _ _) (congrArg (World.drewN _) (Nat.add_assoc _ _ _))⟩))))
  (try simp only [Act.put, List.setIfInBounds_toArray, List.set_cons_zero, List.set_cons_succ])
  go_cut [11] (fun v11 wc => ∃ (kq : Nat) (x11_5 : Int), v11 = .int .i64 x11_5 ∧ Aside0 (impl_shiftOnce.j0 kq a0 a1 a2 a3 (wrap64 ((wrap64 (8 * a1)) - 1)) x11_5 = some (r1, r2)) ∧ Aside0 (kq ≤ k) ∧ Drawn0 w wc)
  case first =>
    have H := HC6.out
    clear HC6
    by_cases c7 : t263 = true
    · subst c7
      have H1 : (if 0 ≤ (wrap64 ((wrap64 (8 * a1)) - 1)) then (impl_shiftOnce.j0 k a0 a1 a2 a3 (wrap64 ((wrap64 (8 * a1)) - 1)) (shr .i64 a3 (wrap64 ((wrap64 (8 * a1)) - 1)))) else (none)) = some (r1, r2) := by rw [if_pos rfl] at H; exact H
      clear H
      have H := H1
      clear H1
      obtain ⟨ji8, hji8⟩ : ∃ j_ : Int, (wrap64 ((wrap64 (8 * a1)) - 1)) = j_ := ⟨_, rfl⟩
      replace H : (if 0 ≤ (ji8) then (impl_shiftOnce.j0 k a0 a1 a2 a3 ji8 (shr .i64 a3 (ji8))) else (none)) = some (r1, r2) := by first | (rw [hji8] at H; exact H) | (simp only [hji8] at H ⊢; exact H)
      have hji8w : (IntKind.i64.wrap ((wrap64 (8 * a1)) - 1)) = ji8 := (i64_w _).trans hji8
      by_cases c9 : 0 ≤ (ji8)
      · rw [if_pos c9] at H
        have c9b0 := eq_true c9
        have c9b1 : decide (0 ≤ (ji8)) = true := decide_eq_true c9
        clear c9
        obtain ⟨ji10, hji10⟩ : ∃ j_ : Int, (shr .i64 a3 (ji8)) = j_ := ⟨_, rfl⟩
        replace H : (impl_shiftOnce.j0 k a0 a1 a2 a3 ji8 ji10) = some (r1, r2) := by first | (rw [hji10] at H; exact H) | (simp only [hji10] at H ⊢; exact H)
        have hji10_ : (a3 / 2 ^ min (ji8).toNat 64) = ji10 := hji10
        have hji10z : (ji8) ≤ 64 → (a3 / 2 ^ (ji8).toNat) = ji10 := shr_small hji10
        have H' := Aside0.mk H
        clear H
        go_wp2
        repeat (go_quiet (fail); try go_wp2)
        go_meet
        case rel => exact ⟨_, (ji10), (by first | rfl | (simp; done) | (simp only [← hji10] <;> (first | rfl | simp)) | (simp [*]; done)), (by first | exact H' | (rw [hji10]; exact H') | (rw [hji12]; exact H') | (rw [hji14]; exact H') | (rw [hji24]; exact H') | (rw [hji26]; exact H') | (rw [hji33]; exact H') | (rw [hji35]; exact H') | (rw [hji8]; exact H')), ⟨by first | omega | exact Nat.le_refl _⟩, by repeat (first | exact Drawn0.refl _ | apply Drawn0.step)⟩
      · rw [if_neg c9] at H
        exact absurd H (by simp)
    · replace c7 := Bool.eq_false_iff.mpr c7
      subst c7
      have H1 : (impl_shiftOnce.j0 k a0 a1 a2 a3 (wrap64 ((wrap64 (8 * a1)) - 1)) (Go.bits .and .i64 a3 1)) = some (r1, r2) := by rw [if_neg (show ¬ (false = true) by decide)] at H; exact H
      clear H
      have H := H1
      clear H1
      have H' := Aside0.mk H
      clear H
      go_wp2
      repeat (go_quiet (fail); try go_wp2)
      go_meet
      case rel => exact ⟨_, (Go.bits .and .i64 a3 1), (by first | rfl | (simp; done) | (simp [*]; done)), (by first | exact H' | (rw [hji10]; exact H') | (rw [hji12]; exact H') | (rw [hji14]; exact H') | (rw [hji24]; exact H') | (rw [hji26]; exact H') | (rw [hji33]; exact H') | (rw [hji35]; exact H') | (rw [hji8]; exact H')), ⟨by first | omega | exact Nat.le_refl _⟩, by repeat (first | exact Drawn0.refl _ | apply Drawn0.step)⟩
  case rest =>
    clear HC6
    try clear c1
    try clear p2
    try clear p6
    try clear c7
    try clear c9
    try clear c9b0
    try clear c9b1
    obtain ⟨kq, x11_5, rfl, HA, HJ5, ⟨mc5, rfl⟩⟩ := hcut
    cases kq with
    | zero => exact absurd HA.out (by simp [impl_shiftOnce.j0])
    | succ kj5 =>
      have H := HA.out
      clear HA
      simp only [impl_shiftOnce.j0] at H
      replace H := Option.bind_eq_some_iff.mp H
      obtain ⟨t264, A110, H⟩ := H
      replace H : (if 0 ≤ (wrap64 ((wrap64 (8 * a1)) - 1)) then ((impl_isLeft.f a0).bind fun t265 => (if t265 = true then ((impl_limitOf.f a1).bind fun t266 => (impl_shiftOnce.j1 kj5 a0 a1 a2 a3 (wrap64 ((wrap64 (8 * a1)) - 1)) x11_5 (Go.bits .or .i64 (Go.bits .and .i64 (wrap64 (a3 * 2)) (wrap64 (t266 - 1))) t264))) else (impl_shiftOnce.j1 kj5 a0 a1 a2 a3 (wrap64 ((wrap64 (8 * a1)) - 1)) x11_5 (Go.bits .or .i64 (a3 / 2) (shl .i64 t264 (wrap64 ((wrap64 (8 * a1)) - 1))))))) else (none)) = some (r1, r2) := H
      have A11 := Aside0.mk A110
      clear A110
      obtain ⟨ji12, hji12⟩ : ∃ j_ : Int, (wrap64 ((wrap64 (8 * a1)) - 1)) = j_ := ⟨_, rfl⟩
      replace H : (if 0 ≤ (ji12) then ((impl_isLeft.f a0).bind fun t265 => (if t265 = true then ((impl_limitOf.f a1).bind fun t266 => (impl_shiftOnce.j1 kj5 a0 a1 a2 a3 (ji12) x11_5 (Go.bits .or .i64 (Go.bits .and .i64 (wrap64 (a3 * 2)) (wrap64 (t266 - 1))) t264))) else (impl_shiftOnce.j1 kj5 a0 a1 a2 a3 (ji12) x11_5 (Go.bits .or .i64 (a3 / 2) (shl .i64 t264 (ji12)))))) else (none)) = some (r1, r2) := by first | (rw [hji12] at H; exact H) | (simp only [hji12] at H ⊢; exact H)
      (try rw [hji12] at A11)
      have hji12w : (IntKind.i64.wrap ((wrap64 (8 * a1)) - 1)) = ji12 := (i64_w _).trans hji12
      by_cases c13 : 0 ≤ (ji12)
      · rw [if_pos c13] at H
        have c13b0 := eq_true c13
        have c13b1 : decide (0 ≤ (ji12)) = true := decide_eq_true c13
        clear c13
        obtain ⟨ji14, hji14⟩ : ∃ j_ : Int, (shl .i64 t264 (ji12)) = j_ := ⟨_, rfl⟩
        replace H : ((impl_isLeft.f a0).bind fun t265 => (if t265 = true then ((impl_limitOf.f a1).bind fun t266 => (impl_shiftOnce.j1 kj5 a0 a1 a2 a3 (ji12) x11_5 (Go.bits .or .i64 (Go.bits .and .i64 (wrap64 (a3 * 2)) (wrap64 (t266 - 1))) t264))) else (impl_shiftOnce.j1 kj5 a0 a1 a2 a3 (ji12) x11_5 (Go.bits .or .i64 (a3 / 2) (ji14))))) = some (r1, r2) := by first | (rw [hji14] at H; exact H) | (simp only [hji14] at H ⊢; exact H)
        (try rw [hji14] at A11)
        have hji14_ : (IntKind.i64.wrap (t264 * 2 ^ min (ji12).toNat 64)) = ji14 := hji14
        have hji14z : (ji12) ≤ 64 → (IntKind.i64.wrap (t264 * 2 ^ (ji12).toNat)) = ji14 := shl_small hji14
        have hji14y : (wrap64 (t264 * 2 ^ min (ji12).toNat 64)) = ji14 := (i64_w _).symm.trans hji14_
        have hji14x : (ji12) ≤ 64 → (wrap64 (t264 * 2 ^ (ji12).toNat)) = ji14 := fun h_ => (i64_w _).symm.trans (hji14z h_)
        replace H := Option.bind_eq_some_iff.mp H
        obtain ⟨t265, A150, H⟩ := H
        replace H : (if t265 = true then ((impl_limitOf.f a1).bind fun t266 => (impl_shiftOnce.j1 kj5 a0 a1 a2 a3 (ji12) x11_5 (Go.bits .or .i64 (Go.bits .and .i64 (wrap64 (a3 * 2)) (wrap64 (t266 - 1))) t264))) else (impl_shiftOnce.j1 kj5 a0 a1 a2 a3 (ji12) x11_5 (Go.bits .or .i64 (a3 / 2) (ji14)))) = some (r1, r2) := H
        have A15 := Aside0.mk A150
        clear A150
        have HC16 := Aside0.mk H
        clear H
        go_upto_if 39 with (first | (go_at_call 142; (with_reducible refine (impl_coming.calls kj5 a0 a1 a2 a3 x11_5 t264 _ A11.out).mono ?_); rintro e w' ⟨rfl, ⟨nd, rfl⟩⟩; (try first | exact ⟨rfl, _, World.drewN_drewN _ _ _⟩ | exact ⟨rfl, _, Eq.trans (World.drewN_drewN _ _ _) (congrArg (World.drewN _) (Nat.add_assoc _ _ _))⟩)) | (go_at_call 141; (with_reducible refine (impl_isLeft.calls a0 t265 _ A15.out).mono ?_); rintro e w' ⟨rfl, ⟨nd, rfl⟩⟩; (try first | exact ⟨rfl, _, World.drewN_drewN _ _ _⟩ | exact ⟨rfl, _, Eq.trans (World.drewN_drewN _ _ _) (congrArg (World.drewN _) (Nat.add_assoc _ _ _))⟩)))
        repeat (go_quiet (first | (go_at_call 142; (with_reducible refine (impl_coming.calls kj5 a0 a1 a2 a3 x11_5 t264 _ A11.out).mono ?_); rintro e w' ⟨rfl, ⟨nd, rfl⟩⟩; (try first | exact ⟨rfl, _, World.drewN_drewN _ _ _⟩ | exact ⟨rfl, _, Eq.trans (World.drewN_drewN _ _ _) (congrArg (World.drewN _) (Nat.add_assoc _ _ _))⟩)) | (go_at_call 141; (with_reducible refine (impl_isLeft.calls a0 t265 _ A15.out).mono ?_); rintro e w' ⟨rfl, ⟨nd, rfl⟩⟩; (try first | exact ⟨rfl, _, World.drewN_drewN _ _ _⟩ | exact ⟨rfl, _, Eq.trans (World.drewN_drewN _ _ _) (congrArg (World.drewN _) (Nat.add_assoc _ _ _))⟩))); go_upto_if 39 with (first | (go_at_call 142; (with_reducible refine (impl_coming.calls kj5 a0 a1 a2 a3 x11_5 t264 _ A11.out).mono ?_); rintro e w' ⟨rfl, ⟨nd, rfl⟩⟩; (try first | exact ⟨rfl, _, World.drewN_drewN _ _ _⟩ | exact ⟨rfl, _, Eq.trans (World.drewN_drewN _ _ _) (congrArg (World.drewN _) (Nat.add_assoc _ _ _))⟩)) | (go_at_call 141; (with_reducible refine (impl_isLeft.calls a0 t265 _ A15.out).mono ?_); rintro e w' ⟨rfl, ⟨nd, rfl⟩⟩; (try first | exact ⟨rfl, _, World.drewN_drewN _ _ _⟩ | exact ⟨rfl, _, Eq.trans (World.drewN_drewN _ _ _) (congrArg (World.drewN _) (Nat.add_assoc _ _ _))⟩))))
        (try simp only [Act.put, List.setIfInBounds_toArray, List.set_cons_zero, List.set_cons_succ])
        go_cut [13] (fun v13 wc => ∃ (kq : Nat) (x13_15 : Int), v13 = .int .i64 x13_15 ∧ Aside0 (impl_shiftOnce.j1 kq a0 a1 a2 a3 (ji12) x11_5 x13_15 = some (r1, r2)) ∧ Aside0 (kq ≤ kj5) ∧ Drawn0 w wc)
        case first =>
          have H := HC16.out
          clear HC16
          by_cases c17 : t265 = true
          · subst c17
            have H1 : ((impl_limitOf.f a1).bind fun t266 => (impl_shiftOnce.j1 kj5 a0 a1 a2 a3 (ji12) x11_5 (Go.bits .or .i64 (Go.bits .and .i64 (wrap64 (a3 * 2)) (wrap64 (t266 - 1))) t264))) = some (r1, r2) := by rw [if_pos rfl] at H; exact H
            clear H
            have H := H1
            clear H1
            replace H := Option.bind_eq_some_iff.mp H
            obtain ⟨t266, A180, H⟩ := H
            replace H : (impl_shiftOnce.j1 kj5 a0 a1 a2 a3 (ji12) x11_5 (Go.bits .or .i64 (Go.bits .and .i64 (wrap64 (a3 * 2)) (wrap64 (t266 - 1))) t264)) = some (r1, r2) := H
            have A18 := Aside0.mk A180
            clear A180
            have H' := Aside0.mk H
            clear H
            go_wp2_with (first | (go_at_call 143; (with_reducible refine (impl_limitOf.calls a1 t266 _ A18.out).mono ?_); rintro e w' ⟨rfl, ⟨nd, rfl⟩⟩; (try first | exact ⟨rfl, _, World.drewN_drewN _ _ _⟩ | exact ⟨rfl, _, Eq.trans (World.drewN_drewN _ _ _) (congrArg (World.drewN _) (Nat.add_assoc _ _ _))⟩)))
            repeat (go_quiet (first | (go_at_call 143; (with_reducible refine (impl_limitOf.calls a1 t266 _ A18.out).mono ?_); rintro e w' ⟨rfl, ⟨nd, rfl⟩⟩; (try first | exact ⟨rfl, _, World.drewN_drewN _ _ _⟩ | exact ⟨rfl, _, Eq.trans (World.drewN_drewN _ _ _) (congrArg (World.drewN _) (Nat.add_assoc _ _ _))⟩))); try go_wp2_with (first | (go_at_call 143; (with_reducible refine (impl_limitOf.calls a1 t266 _ A18.out).mono ?_); rintro e w' ⟨rfl, ⟨nd, rfl⟩⟩; (try first | exact ⟨rfl, _, World.drewN_drewN _ _ _⟩ | exact ⟨rfl, _, Eq.trans (World.drewN_drewN _ _ _) (congrArg (World.drewN _) (Nat.add_assoc _ _ _))⟩))))
            go_meet
            case rel => exact ⟨_, (Go.bits .or .i64 (Go.bits .and .i64 (wrap64 (a3 * 2)) (wrap64 (t266 - 1))) t264), (by first | rfl | (simp; done) | (simp [*]; done)), (by first | exact H' | (rw [hji10]; exact H') | (rw [hji12]; exact H') | (rw [hji14]; exact H') | (rw [hji24]; exact H') | (rw [hji26]; exact H') | (rw [hji33]; exact H') | (rw [hji35]; exact H') | (rw [hji8]; exact H')), ⟨by have := HJ5.out; first | omega | exact Nat.le_refl _⟩, by repeat (first | exact Drawn0.refl _ | apply Drawn0.step)⟩
          · replace c17 := Bool.eq_false_iff.mpr c17
            subst c17
            have H1 : (impl_shiftOnce.j1 kj5 a0 a1 a2 a3 (ji12) x11_5 (Go.bits .or .i64 (a3 / 2) (ji14))) = some (r1, r2) := by rw [if_neg (show ¬ (false = true) by decide)] at H; exact H
            clear H
            have H := H1
            clear H1
            have H' := Aside0.mk H
            clear H
            go_wp2
            repeat (go_quiet (fail); try go_wp2)
            go_meet
            case rel => exact ⟨_, (Go.bits .or .i64 (a3 / 2) (ji14)), (by first | rfl | (simp; done) | (simp only [← hji14] <;> (first | rfl | simp)) | (simp [*]; done)), (by first | exact H' | (rw [hji10]; exact H') | (rw [hji12]; exact H') | (rw [hji14]; exact H') | (rw [hji24]; exact H') | (rw [hji26]; exact H') | (rw [hji33]; exact H') | (rw [hji35]; exact H') | (rw [hji8]; exact H')), ⟨by have := HJ5.out; first | omega | exact Nat.le_refl _⟩, by repeat (first | exact Drawn0.refl _ | apply Drawn0.step)⟩
        case rest =>
          clear HC16
          try clear c1
          try clear p2
          try clear c5
          try clear p6
          try clear c7
          try clear c9
          try clear c9b0
          try clear c9b1
          try clear c11
          try clear c13
          try clear c13b0
          try clear c13b1
          try clear c17
          try clear p2
          try clear p6
          obtain ⟨kq, x13_15, rfl, HA, HJ15, ⟨mc15, rfl⟩⟩ := hcut
          cases kq with
          | zero => exact absurd HA.out (by simp [impl_shiftOnce.j1])
          | succ kj15 =>
            have H := HA.out
            clear HA
            simp only [impl_shiftOnce.j1] at H
            have HC19 := Aside0.mk H
            clear H
            go_upto_region 10 with (fail)
            repeat (go_quiet (fail); go_upto_region 10 with (fail))
            go_cut [55] (fun v55 wc => ∃ (kq : Nat) (x55_18 : Bool), v55 = .bool x55_18 ∧ Aside0 (impl_shiftOnce.j2 kq a0 a1 a2 a3 (ji12) x11_5 x13_15 (wrap64 (x11_5 * 16)) x55_18 = some (r1, r2)) ∧ Aside0 (kq ≤ kj15) ∧ Drawn0 w wc)
            case first =>
              have H := HC19.out
              clear HC19
              by_cases c20 : a0 = 4
              · rw [if_pos c20] at H
                have c20b0 : (a0 == 4) = true := beq_iff_eq.mpr c20
                have c20b1 : (a0 != 4) = false := bne_eq_false_iff_eq.mpr c20
                clear c20
                (first | rw [c20b0] | (simp only [i64_w, i32_w]; rw [c20b0]) | skip)
                have H' := Aside0.mk H
                clear H
                go_wp2
                repeat (go_quiet (fail); try go_wp2)
                go_meet
                case rel => exact ⟨_, (true), (by first | rfl | (simp; done) | (simp [*]; done)), (by first | exact H' | (rw [hji10]; exact H') | (rw [hji12]; exact H') | (rw [hji14]; exact H') | (rw [hji24]; exact H') | (rw [hji26]; exact H') | (rw [hji33]; exact H') | (rw [hji35]; exact H') | (rw [hji8]; exact H')), ⟨by have := HJ5.out; have := HJ15.out; first | omega | exact Nat.le_refl _⟩, by repeat (first | exact Drawn0.refl _ | apply Drawn0.step)⟩
              · rw [if_neg c20] at H
                have c20b0 : (a0 == 4) = false := beq_eq_false_iff_ne.mpr c20
                have c20b1 : (a0 != 4) = true := bne_iff_ne.mpr c20
                (first | rw [c20b0] | (simp only [i64_w, i32_w]; rw [c20b0]) | skip)
                have H' := Aside0.mk H
                clear H
                go_wp2
                repeat (go_quiet (fail); try go_wp2)
                go_meet
                case rel => exact ⟨_, ((a0 == 5)), (by first | rfl | (simp; done) | (simp [*]; done)), (by first | exact H' | (rw [hji10]; exact H') | (rw [hji12]; exact H') | (rw [hji14]; exact H') | (rw [hji24]; exact H') | (rw [hji26]; exact H') | (rw [hji33]; exact H') | (rw [hji35]; exact H') | (rw [hji8]; exact H')), ⟨by have := HJ5.out; have := HJ15.out; first | omega | exact Nat.le_refl _⟩, by repeat (first | exact Drawn0.refl _ | apply Drawn0.step)⟩
            case rest =>
              clear HC19
              try clear c1
              try clear c2
              try clear p2
              try clear c5
              try clear p6
              try clear c7
              try clear c9
              try clear c9b0
              try clear c9b1
              try clear c11
              try clear c13
              try clear c13b0
              try clear c13b1
              try clear c15
              try clear c17
              try clear c20
              try clear c20b0
              try clear c20b1
              try clear p2
              try clear p6
              obtain ⟨kq, x55_18, rfl, HA, HJ18, ⟨mc18, rfl⟩⟩ := hcut
              cases kq with
              | zero => exact absurd HA.out (by simp [impl_shiftOnce.j2])
              | succ kj18 =>
                have H := HA.out
                clear HA
                simp only [impl_shiftOnce.j2] at H
                by_cases c21 : x55_18 = true
                · subst c21
                  have H1 : (if a0 = 0 then (if 0 ≤ (ji12) then ((impl_flag.f ((shr .i64 x13_15 (ji12)) != (shr .i64 a3 (ji12))) 2).bind fun t267 => ((impl_signs.f a1 x13_15).bind fun t268 => (some (x13_15, Go.bits .or .i64 (Go.bits .or .i64 (Go.bits .or .i64 (wrap64 (x11_5 * 1)) (Go.bits .and .i64 a2 16)) t267) t268)))) else (none)) else ((impl_flag.f false 2).bind fun t269 => ((impl_signs.f a1 x13_15).bind fun t270 => (some (x13_15, Go.bits .or .i64 (Go.bits .or .i64 (Go.bits .or .i64 (wrap64 (x11_5 * 1)) (Go.bits .and .i64 a2 16)) t269) t270))))) = some (r1, r2) := by rw [if_pos rfl] at H; exact H
                  clear H
                  have H := H1
                  clear H1
                  by_cases c22 : a0 = 0
                  · rw [if_pos c22] at H
                    have c22b0 : (a0 == 0) = true := beq_iff_eq.mpr c22
                    have c22b1 : (a0 != 0) = false := bne_eq_false_iff_eq.mpr c22
                    clear c22
                    by_cases c23 : 0 ≤ (ji12)
                    · rw [if_pos c23] at H
                      have c23b0 := eq_true c23
                      have c23b1 : decide (0 ≤ (ji12)) = true := decide_eq_true c23
                      clear c23
                      obtain ⟨ji24, hji24⟩ : ∃ j_ : Int, (shr .i64 x13_15 (ji12)) = j_ := ⟨_, rfl⟩
                      replace H : ((impl_flag.f ((ji24) != (shr .i64 a3 (ji12))) 2).bind fun t267 => ((impl_signs.f a1 x13_15).bind fun t268 => (some (x13_15, Go.bits .or .i64 (Go.bits .or .i64 (Go.bits .or .i64 (wrap64 (x11_5 * 1)) (Go.bits .and .i64 a2 16)) t267) t268)))) = some (r1, r2) := by first | (rw [hji24] at H; exact H) | (simp only [hji24] at H ⊢; exact H)
                      have hji24_ : (x13_15 / 2 ^ min (ji12).toNat 64) = ji24 := hji24
                      have hji24z : (ji12) ≤ 64 → (x13_15 / 2 ^ (ji12).toNat) = ji24 := shr_small hji24
                      have c25b0 := eq_true (of_decide_eq_true (by first | (with_reducible assumption) | assumption) : 0 ≤ (ji12))
                      obtain ⟨ji26, hji26⟩ : ∃ j_ : Int, (shr .i64 a3 (ji12)) = j_ := ⟨_, rfl⟩
                      replace H : ((impl_flag.f ((ji24) != (ji26)) 2).bind fun t267 => ((impl_signs.f a1 x13_15).bind fun t268 => (some (x13_15, Go.bits .or .i64 (Go.bits .or .i64 (Go.bits .or .i64 (wrap64 (x11_5 * 1)) (Go.bits .and .i64 a2 16)) t267) t268)))) = some (r1, r2) := by first | (rw [hji26] at H; exact H) | (simp only [hji26] at H ⊢; exact H)
                      have hji26_ : (a3 / 2 ^ min (ji12).toNat 64) = ji26 := hji26
                      have hji26z : (ji12) ≤ 64 → (a3 / 2 ^ (ji12).toNat) = ji26 := shr_small hji26
                      replace H := Option.bind_eq_some_iff.mp H
                      obtain ⟨t267, A270, H⟩ := H
                      replace H : ((impl_signs.f a1 x13_15).bind fun t268 => (some (x13_15, Go.bits .or .i64 (Go.bits .or .i64 (Go.bits .or .i64 (wrap64 (x11_5 * 1)) (Go.bits .and .i64 a2 16)) t267) t268))) = some (r1, r2) := H
                      have A27 := Aside0.mk A270
                      clear A270
                      replace H := Option.bind_eq_some_iff.mp H
                      obtain ⟨t268, A280, H⟩ := H
                      replace H : (some (x13_15, Go.bits .or .i64 (Go.bits .or .i64 (Go.bits .or .i64 (wrap64 (x11_5 * 1)) (Go.bits .and .i64 a2 16)) t267) t268)) = some (r1, r2) := H
                      have A28 := Aside0.mk A280
                      clear A280
                      simp only [Option.some.injEq, Prod.mk.injEq] at H
                      obtain ⟨rfl, rfl⟩ := H
                      go_wp2_with (first | (go_at_call 95; (with_reducible refine (impl_flag.calls ((ji24) != (ji26)) 2 t267 _ A27.out).mono ?_); rintro e w' ⟨rfl, ⟨nd, rfl⟩⟩; (try first | exact ⟨rfl, _, World.drewN_drewN _ _ _⟩ | exact ⟨rfl, _, Eq.trans (World.drewN_drewN _ _ _) (congrArg (World.drewN _) (Nat.add_assoc _ _ _))⟩)) | (go_at_call 140; (with_reducible refine (impl_signs.calls a1 x13_15 t268 _ A28.out).mono ?_); rintro e w' ⟨rfl, ⟨nd, rfl⟩⟩; (try first | exact ⟨rfl, _, World.drewN_drewN _ _ _⟩ | exact ⟨rfl, _, Eq.trans (World.drewN_drewN _ _ _) (congrArg (World.drewN _) (Nat.add_assoc _ _ _))⟩)))
                      repeat (go_quiet (first | (go_at_call 95; (with_reducible refine (impl_flag.calls ((ji24) != (ji26)) 2 t267 _ A27.out).mono ?_); rintro e w' ⟨rfl, ⟨nd, rfl⟩⟩; (try first | exact ⟨rfl, _, World.drewN_drewN _ _ _⟩ | exact ⟨rfl, _, Eq.trans (World.drewN_drewN _ _ _) (congrArg (World.drewN _) (Nat.add_assoc _ _ _))⟩)) | (go_at_call 140; (with_reducible refine (impl_signs.calls a1 x13_15 t268 _ A28.out).mono ?_); rintro e w' ⟨rfl, ⟨nd, rfl⟩⟩; (try first | exact ⟨rfl, _, World.drewN_drewN _ _ _⟩ | exact ⟨rfl, _, Eq.trans (World.drewN_drewN _ _ _) (congrArg (World.drewN _) (Nat.add_assoc _ _ _))⟩))); try go_wp2_with (first | (go_at_call 95; (with_reducible refine (impl_flag.calls ((ji24) != (ji26)) 2 t267 _ A27.out).mono ?_); rintro e w' ⟨rfl, ⟨nd, rfl⟩⟩; (try first | exact ⟨rfl, _, World.drewN_drewN _ _ _⟩ | exact ⟨rfl, _, Eq.trans (World.drewN_drewN _ _ _) (congrArg (World.drewN _) (Nat.add_assoc _ _ _))⟩)) | (go_at_call 140; (with_reducible refine (impl_signs.calls a1 x13_15 t268 _ A28.out).mono ?_); rintro e w' ⟨rfl, ⟨nd, rfl⟩⟩; (try first | exact ⟨rfl, _, World.drewN_drewN _ _ _⟩ | exact ⟨rfl, _, Eq.trans (World.drewN_drewN _ _ _) (congrArg (World.drewN _) (Nat.add_assoc _ _ _))⟩))))
                      go_ret2
                      exact ⟨by first | rfl | (simp; done) | (simp only [← hji12, ← hji14, ← hji24, ← hji26] <;> (first | rfl | simp)) | (simp [*]; done), by repeat (first | exact Drawn0.refl _ | apply Drawn0.step)⟩
                    · rw [if_neg c23] at H
                      exact absurd H (by simp)
                  · rw [if_neg c22] at H
                    have c22b0 : (a0 == 0) = false := beq_eq_false_iff_ne.mpr c22
                    have c22b1 : (a0 != 0) = true := bne_iff_ne.mpr c22
                    replace H := Option.bind_eq_some_iff.mp H
                    obtain ⟨t269, A290, H⟩ := H
                    replace H : ((impl_signs.f a1 x13_15).bind fun t270 => (some (x13_15, Go.bits .or .i64 (Go.bits .or .i64 (Go.bits .or .i64 (wrap64 (x11_5 * 1)) (Go.bits .and .i64 a2 16)) t269) t270))) = some (r1, r2) := H
                    have A29 := Aside0.mk A290
                    clear A290
                    replace H := Option.bind_eq_some_iff.mp H
                    obtain ⟨t270, A300, H⟩ := H
                    replace H : (some (x13_15, Go.bits .or .i64 (Go.bits .or .i64 (Go.bits .or .i64 (wrap64 (x11_5 * 1)) (Go.bits .and .i64 a2 16)) t269) t270)) = some (r1, r2) := H
                    have A30 := Aside0.mk A300
                    clear A300
                    simp only [Option.some.injEq, Prod.mk.injEq] at H
                    obtain ⟨rfl, rfl⟩ := H
                    go_wp2_with (first | (go_at_call 95; (with_reducible refine (impl_flag.calls false 2 t269 _ A29.out).mono ?_); rintro e w' ⟨rfl, ⟨nd, rfl⟩⟩; (try first | exact ⟨rfl, _, World.drewN_drewN _ _ _⟩ | exact ⟨rfl, _, Eq.trans (World.drewN_drewN _ _ _) (congrArg (World.drewN _) (Nat.add_assoc _ _ _))⟩)) | (go_at_call 140; (with_reducible refine (impl_signs.calls a1 x13_15 t270 _ A30.out).mono ?_); rintro e w' ⟨rfl, ⟨nd, rfl⟩⟩; (try first | exact ⟨rfl, _, World.drewN_drewN _ _ _⟩ | exact ⟨rfl, _, Eq.trans (World.drewN_drewN _ _ _) (congrArg (World.drewN _) (Nat.add_assoc _ _ _))⟩)))
                    repeat (go_quiet (first | (go_at_call 95; (with_reducible refine (impl_flag.calls false 2 t269 _ A29.out).mono ?_); rintro e w' ⟨rfl, ⟨nd, rfl⟩⟩; (try first | exact ⟨rfl, _, World.drewN_drewN _ _ _⟩ | exact ⟨rfl, _, Eq.trans (World.drewN_drewN _ _ _) (congrArg (World.drewN _) (Nat.add_assoc _ _ _))⟩)) | (go_at_call 140; (with_reducible refine (impl_signs.calls a1 x13_15 t270 _ A30.out).mono ?_); rintro e w' ⟨rfl, ⟨nd, rfl⟩⟩; (try first | exact ⟨rfl, _, World.drewN_drewN _ _ _⟩ | exact ⟨rfl, _, Eq.trans (World.drewN_drewN _ _ _) (congrArg (World.drewN _) (Nat.add_assoc _ _ _))⟩))); try go_wp2_with (first | (go_at_call 95; (with_reducible refine (impl_flag.calls false 2 t269 _ A29.out).mono ?_); rintro e w' ⟨rfl, ⟨nd, rfl⟩⟩; (try first | exact ⟨rfl, _, World.drewN_drewN _ _ _⟩ | exact ⟨rfl, _, Eq.trans (World.drewN_drewN _ _ _) (congrArg (World.drewN _) (Nat.add_assoc _ _ _))⟩)) | (go_at_call 140; (with_reducible refine (impl_signs.calls a1 x13_15 t270 _ A30.out).mono ?_); rintro e w' ⟨rfl, ⟨nd, rfl⟩⟩; (try first | exact ⟨rfl, _, World.drewN_drewN _ _ _⟩ | exact ⟨rfl, _, Eq.trans (World.drewN_drewN _ _ _) (congrArg (World.drewN _) (Nat.add_assoc _ _ _))⟩))))
                    go_ret2
                    exact ⟨by first | rfl | (simp; done) | (simp only [← hji12, ← hji14] <;> (first | rfl | simp)) | (simp [*]; done), by repeat (first | exact Drawn0.refl _ | apply Drawn0.step)⟩
                · replace c21 := Bool.eq_false_iff.mpr c21
                  subst c21
                  have H1 : (if a0 = 0 then (if 0 ≤ (ji12) then ((impl_flag.f ((shr .i64 x13_15 (ji12)) != (shr .i64 a3 (ji12))) 2).bind fun t271 => ((impl_signs.f a1 x13_15).bind fun t272 => (some (x13_15, Go.bits .or .i64 (Go.bits .or .i64 (Go.bits .or .i64 (wrap64 (x11_5 * 1)) (wrap64 (x11_5 * 16))) t271) t272)))) else (none)) else ((impl_flag.f false 2).bind fun t273 => ((impl_signs.f a1 x13_15).bind fun t274 => (some (x13_15, Go.bits .or .i64 (Go.bits .or .i64 (Go.bits .or .i64 (wrap64 (x11_5 * 1)) (wrap64 (x11_5 * 16))) t273) t274))))) = some (r1, r2) := by rw [if_neg (show ¬ (false = true) by decide)] at H; exact H
                  clear H
                  have H := H1
                  clear H1
                  by_cases c31 : a0 = 0
                  · rw [if_pos c31] at H
                    have c31b0 : (a0 == 0) = true := beq_iff_eq.mpr c31
                    have c31b1 : (a0 != 0) = false := bne_eq_false_iff_eq.mpr c31
                    clear c31
                    by_cases c32 : 0 ≤ (ji12)
                    · rw [if_pos c32] at H
                      have c32b0 := eq_true c32
                      have c32b1 : decide (0 ≤ (ji12)) = true := decide_eq_true c32
                      clear c32
                      obtain ⟨ji33, hji33⟩ : ∃ j_ : Int, (shr .i64 x13_15 (ji12)) = j_ := ⟨_, rfl⟩
                      replace H : ((impl_flag.f ((ji33) != (shr .i64 a3 (ji12))) 2).bind fun t271 => ((impl_signs.f a1 x13_15).bind fun t272 => (some (x13_15, Go.bits .or .i64 (Go.bits .or .i64 (Go.bits .or .i64 (wrap64 (x11_5 * 1)) (wrap64 (x11_5 * 16))) t271) t272)))) = some (r1, r2) := by first | (rw [hji33] at H; exact H) | (simp only [hji33] at H ⊢; exact H)
                      have hji33_ : (x13_15 / 2 ^ min (ji12).toNat 64) = ji33 := hji33
                      have hji33z : (ji12) ≤ 64 → (x13_15 / 2 ^ (ji12).toNat) = ji33 := shr_small hji33
                      have c34b0 := eq_true (of_decide_eq_true (by first | (with_reducible assumption) | assumption) : 0 ≤ (ji12))
                      obtain ⟨ji35, hji35⟩ : ∃ j_ : Int, (shr .i64 a3 (ji12)) = j_ := ⟨_, rfl⟩
                      replace H : ((impl_flag.f ((ji33) != (ji35)) 2).bind fun t271 => ((impl_signs.f a1 x13_15).bind fun t272 => (some (x13_15, Go.bits .or .i64 (Go.bits .or .i64 (Go.bits .or .i64 (wrap64 (x11_5 * 1)) (wrap64 (x11_5 * 16))) t271) t272)))) = some (r1, r2) := by first | (rw [hji35] at H; exact H) | (simp only [hji35] at H ⊢; exact H)
                      have hji35_ : (a3 / 2 ^ min (ji12).toNat 64) = ji35 := hji35
                      have hji35z : (ji12) ≤ 64 → (a3 / 2 ^ (ji12).toNat) = ji35 := shr_small hji35
                      replace H := Option.bind_eq_some_iff.mp H
                      obtain ⟨t271, A360, H⟩ := H
                      replace H : ((impl_signs.f a1 x13_15).bind fun t272 => (some (x13_15, Go.bits .or .i64 (Go.bits .or .i64 (Go.bits .or .i64 (wrap64 (x11_5 * 1)) (wrap64 (x11_5 * 16))) t271) t272))) = some (r1, r2) := H
                      have A36 := Aside0.mk A360
                      clear A360
                      replace H := Option.bind_eq_some_iff.mp H
                      obtain ⟨t272, A370, H⟩ := H
                      replace H : (some (x13_15, Go.bits .or .i64 (Go.bits .or .i64 (Go.bits .or .i64 (wrap64 (x11_5 * 1)) (wrap64 (x11_5 * 16))) t271) t272)) = some (r1, r2) := H
                      have A37 := Aside0.mk A370
                      clear A370
                      simp only [Option.some.injEq, Prod.mk.injEq] at H
                      obtain ⟨rfl, rfl⟩ := H
                      go_wp2_with (first | (go_at_call 95; (with_reducible refine (impl_flag.calls ((ji33) != (ji35)) 2 t271 _ A36.out).mono ?_); rintro e w' ⟨rfl, ⟨nd, rfl⟩⟩; (try first | exact ⟨rfl, _, World.drewN_drewN _ _ _⟩ | exact ⟨rfl, _, Eq.trans (World.drewN_drewN _ _ _) (congrArg (World.drewN _) (Nat.add_assoc _ _ _))⟩)) | (go_at_call 140; (with_reducible refine (impl_signs.calls a1 x13_15 t272 _ A37.out).mono ?_); rintro e w' ⟨rfl, ⟨nd, rfl⟩⟩; (try first | exact ⟨rfl, _, World.drewN_drewN _ _ _⟩ | exact ⟨rfl, _, Eq.trans (World.drewN_drewN _ _ _) (congrArg (World.drewN _) (Nat.add_assoc _ _ _))⟩)))
                      repeat (go_quiet (first | (go_at_call 95; (with_reducible refine (impl_flag.calls ((ji33) != (ji35)) 2 t271 _ A36.out).mono ?_); rintro e w' ⟨rfl, ⟨nd, rfl⟩⟩; (try first | exact ⟨rfl, _, World.drewN_drewN _ _ _⟩ | exact ⟨rfl, _, Eq.trans (World.drewN_drewN _ _ _) (congrArg (World.drewN _) (Nat.add_assoc _ _ _))⟩)) | (go_at_call 140; (with_reducible refine (impl_signs.calls a1 x13_15 t272 _ A37.out).mono ?_); rintro e w' ⟨rfl, ⟨nd, rfl⟩⟩; (try first | exact ⟨rfl, _, World.drewN_drewN _ _ _⟩ | exact ⟨rfl, _, Eq.trans (World.drewN_drewN _ _ _) (congrArg (World.drewN _) (Nat.add_assoc _ _ _))⟩))); try go_wp2_with (first | (go_at_call 95; (with_reducible refine (impl_flag.calls ((ji33) != (ji35)) 2 t271 _ A36.out).mono ?_); rintro e w' ⟨rfl, ⟨nd, rfl⟩⟩; (try first | exact ⟨rfl, _, World.drewN_drewN _ _ _⟩ | exact ⟨rfl, _, Eq.trans (World.drewN_drewN _ _ _) (congrArg (World.drewN _) (Nat.add_assoc _ _ _))⟩)) | (go_at_call 140; (with_reducible refine (impl_signs.calls a1 x13_15 t272 _ A37.out).mono ?_); rintro e w' ⟨rfl, ⟨nd, rfl⟩⟩; (try first | exact ⟨rfl, _, World.drewN_drewN _ _ _⟩ | exact ⟨rfl, _, Eq.trans (World.drewN_drewN _ _ _) (congrArg (World.drewN _) (Nat.add_assoc _ _ _))⟩))))
                      go_ret2
                      exact ⟨by first | rfl | (simp; done) | (simp only [← hji12, ← hji14, ← hji33, ← hji35] <;> (first | rfl | simp)) | (simp [*]; done), by repeat (first | exact Drawn0.refl _ | apply Drawn0.step)⟩
                    · rw [if_neg c32] at H
                      exact absurd H (by simp)
                  · rw [if_neg c31] at H
                    have c31b0 : (a0 == 0) = false := beq_eq_false_iff_ne.mpr c31
                    have c31b1 : (a0 != 0) = true := bne_iff_ne.mpr c31
                    replace H := Option.bind_eq_some_iff.mp H
                    obtain ⟨t273, A380, H⟩ := H
                    replace H : ((impl_signs.f a1 x13_15).bind fun t274 => (some (x13_15, Go.bits .or .i64 (Go.bits .or .i64 (Go.bits .or .i64 (wrap64 (x11_5 * 1)) (wrap64 (x11_5 * 16))) t273) t274))) = some (r1, r2) := H
                    have A38 := Aside0.mk A380
                    clear A380
                    replace H := Option.bind_eq_some_iff.mp H
                    obtain ⟨t274, A390, H⟩ := H
                    replace H : (some (x13_15, Go.bits .or .i64 (Go.bits .or .i64 (Go.bits .or .i64 (wrap64 (x11_5 * 1)) (wrap64 (x11_5 * 16))) t273) t274)) = some (r1, r2) := H
                    have A39 := Aside0.mk A390
                    clear A390
                    simp only [Option.some.injEq, Prod.mk.injEq] at H
                    obtain ⟨rfl, rfl⟩ := H
                    go_wp2_with (first | (go_at_call 95; (with_reducible refine (impl_flag.calls false 2 t273 _ A38.out).mono ?_); rintro e w' ⟨rfl, ⟨nd, rfl⟩⟩; (try first | exact ⟨rfl, _, World.drewN_drewN _ _ _⟩ | exact ⟨rfl, _, Eq.trans (World.drewN_drewN _ _ _) (congrArg (World.drewN _) (Nat.add_assoc _ _ _))⟩)) | (go_at_call 140; (with_reducible refine (impl_signs.calls a1 x13_15 t274 _ A39.out).mono ?_); rintro e w' ⟨rfl, ⟨nd, rfl⟩⟩; (try first | exact ⟨rfl, _, World.drewN_drewN _ _ _⟩ | exact ⟨rfl, _, Eq.trans (World.drewN_drewN _ _ _) (congrArg (World.drewN _) (Nat.add_assoc _ _ _))⟩)))
                    repeat (go_quiet (first | (go_at_call 95; (with_reducible refine (impl_flag.calls false 2 t273 _ A38.out).mono ?_); rintro e w' ⟨rfl, ⟨nd, rfl⟩⟩; (try first | exact ⟨rfl, _, World.drewN_drewN _ _ _⟩ | exact ⟨rfl, _, Eq.trans (World.drewN_drewN _ _ _) (congrArg (World.drewN _) (Nat.add_assoc _ _ _))⟩)) | (go_at_call 140; (with_reducible refine (impl_signs.calls a1 x13_15 t274 _ A39.out).mono ?_); rintro e w' ⟨rfl, ⟨nd, rfl⟩⟩; (try first | exact ⟨rfl, _, World.drewN_drewN _ _ _⟩ | exact ⟨rfl, _, Eq.trans (World.drewN_drewN _ _ _) (congrArg (World.drewN _) (Nat.add_assoc _ _ _))⟩))); try go_wp2_with (first | (go_at_call 95; (with_reducible refine (impl_flag.calls false 2 t273 _ A38.out).mono ?_); rintro e w' ⟨rfl, ⟨nd, rfl⟩⟩; (try first | exact ⟨rfl, _, World.drewN_drewN _ _ _⟩ | exact ⟨rfl, _, Eq.trans (World.drewN_drewN _ _ _) (congrArg (World.drewN _) (Nat.add_assoc _ _ _))⟩)) | (go_at_call 140; (with_reducible refine (impl_signs.calls a1 x13_15 t274 _ A39.out).mono ?_); rintro e w' ⟨rfl, ⟨nd, rfl⟩⟩; (try first | exact ⟨rfl, _, World.drewN_drewN _ _ _⟩ | exact ⟨rfl, _, Eq.trans (World.drewN_drewN _ _ _) (congrArg (World.drewN _) (Nat.add_assoc _ _ _))⟩))))
                    go_ret2
                    exact ⟨by first | rfl | (simp; done) | (simp only [← hji12, ← hji14] <;> (first | rfl | simp)) | (simp [*]; done), by repeat (first | exact Drawn0.refl _ | apply Drawn0.step)⟩
      · rw [if_neg c13] at H
        exact absurd H (by simp)

end Go.Proofs.Ytopmacbjbjaekaa.H
