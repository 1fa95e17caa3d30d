-- Made by this session's program gprint.py out of the translation. Not trusted: Lean checks it.
import Derived.Test.YtlebikjghlaooaaPx0
import Derived.Test.YtlebikjghlaooaaPx10
namespace Go.Proofs.Ytlebikjghlaooaa.P
open Go.RowKit Go.Proofs.YtlebikjghlaooaaW.PrintWords Go.Proofs.YtlebikjghlaooaaW.PrintLast Go.Proofs.YtlebikjghlaooaaW.PrintMore
attribute [local go_sem] max2_int min2_int max_two min_two max_three min_three max_four min_four   -- for this text's walks alone
set_option linter.unusedVariables false
set_option linter.unusedSimpArgs false

/-! ### spec_l4Kind: function 114 -/
def spec_l4Kind.j0 : Nat → Int → Bool → Option (Int)
 | 0, _, _ => none
 | k + 1, x0, x3 => if x3 = true then (some 1) else ((spec_l1In.f x0 384 447).bind fun t102 => (if t102 = true then (some 3) else (some 0)))
def spec_l4Kind.f (k : Nat) (a0 : Int) : Option (Int) := if a0 ≥ 512 then (spec_l4Kind.j0 k a0 (decide (a0 ≥ 512))) else ((spec_l1In.f a0 448 495).bind fun t101 => (spec_l4Kind.j0 k a0 t101))
theorem spec_l4Kind.mono_l : ∀ k, (∀ y0 y1, LeO (spec_l4Kind.j0 k y0 y1) (spec_l4Kind.j0 (k + 1) y0 y1))
 | 0 => fun _ _ r h => by simp [spec_l4Kind.j0] at h
 | k + 1 => by
  have ih0 := spec_l4Kind.mono_l k
  ·
   intro y0 y1
   unfold spec_l4Kind.j0
   repeat' first
   | (with_reducible exact ih0 _ _)
   | (with_reducible exact LeO.refl _)
   | (with_reducible exact LeO.none _)
   | (with_reducible refine LeO.ite ?_ ?_)
   | (with_reducible refine LeO.bind ?_ (fun _ => ?_))
   | exact ih0 _ _
   | exact LeO.none _
   | refine LeO.ite ?_ ?_
   | refine LeO.bind ?_ (fun _ => ?_)
theorem spec_l4Kind.mono : ∀ a0 k, LeO (spec_l4Kind.f k a0) (spec_l4Kind.f (k + 1) a0) := by
 intro a0 k
 have ih0 := spec_l4Kind.mono_l k
 unfold spec_l4Kind.f
 repeat' first
   | (with_reducible exact ih0 _ _)
   | (with_reducible exact LeO.refl _)
   | (with_reducible exact LeO.none _)
   | (with_reducible refine LeO.ite ?_ ?_)
   | (with_reducible refine LeO.bind ?_ (fun _ => ?_))
   | exact ih0 _ _
   | exact LeO.none _
   | refine LeO.ite ?_ ?_
   | refine LeO.bind ?_ (fun _ => ?_)
set_option maxHeartbeats 8000000 in
set_option maxRecDepth 100000 in
theorem spec_l4Kind.calls (k : Nat) (a0 : Int) (r : Int) (w : World) (h : spec_l4Kind.f k a0 = some r) :
  Calls Try.prog 114 #[.int .i64 a0] w fun e w' => e = .returned (.int .i64 r) ∧ Drawn0 w w' := by
 have H : (if a0 ≥ 512 then (spec_l4Kind.j0 k a0 (decide (a0 ≥ 512))) else ((spec_l1In.f a0 448 495).bind fun t101 => (spec_l4Kind.j0 k a0 t101))) = some r := h; clear h; have HC2 := Aside0.mk H; clear H; go_enter Try.func114, Try.ntmps114; go_upto_if 3 with (fail)
 go_cut [3] (fun v3 wc => ∃ (kq : Nat) (x3_1 : Bool), v3 = .bool x3_1 ∧ Aside0 (spec_l4Kind.j0 kq a0 x3_1 = some r) ∧ Aside0 (kq ≤ k) ∧ Drawn0 w wc)
 case first =>
  have H := HC2.out; clear HC2; by_cases c3 : a0 ≥ 512
  · rw [if_pos c3] at H; have c3b0 : decide (512 ≤ a0) = true := decide_eq_true c3; clear c3; (first | rw [c3b0] | (simp only [i64_w, i32_w]; rw [c3b0]) | skip); have H' := Aside0.mk H; clear H; go_wp2; go_meet; case rel => exact ⟨_, (decide (a0 ≥ 512)), (by first | rfl | (simp; done) | (simp [*]; done)), H', ⟨by first | omega | exact Nat.le_refl _⟩, by repeat (first | exact Drawn0.refl _ | apply Drawn0.step)⟩
  ·
   rw [if_neg c3] at H; have c3b0 : decide (512 ≤ a0) = false := decide_eq_false c3; clear c3; (first | rw [c3b0] | (simp only [i64_w, i32_w]; rw [c3b0]) | skip); obtain ⟨t101, A40, H⟩ := bE H; have A4 := Aside0.mk A40; clear A40; have H' := Aside0.mk H; clear H; go_wp2_with (first | ((with_reducible refine gate_callee (f := 53) rfl ?_); refine goesQ (some 7) Try.func53 #[.int .i64 a0, .int .i64 448, .int .i64 495] (spec_l1In.calls a0 448 495 t101 _ A4.out) fun nd => ?_))
   go_meet; case rel => exact ⟨_, (t101), (by first | rfl | (simp; done) | (simp [*]; done)), H', ⟨by first | omega | exact Nat.le_refl _⟩, by repeat (first | exact Drawn0.refl _ | apply Drawn0.step)⟩
 case rest =>
  clear HC2; (try clear c1); (try clear p2); (try clear c3); (try clear c3b0); obtain ⟨kq, x3_1, rfl, HA, HJ1, ⟨mc1, rfl⟩⟩ := hcut; cases kq with
  | zero => exact absurd HA.out (by simp [spec_l4Kind.j0])
  | succ kj1 =>
   have H := HA.out; clear HA; simp only [spec_l4Kind.j0] at H; by_cases c5 : x3_1 = true
   · subst c5; replace H := iT H; obtain rfl := Option.some.inj H; go_wp2; go_ret; exact ⟨by first | rfl | (simp; done) | (simp [*]; done), by repeat (first | exact Drawn0.refl _ | apply Drawn0.step)⟩
   ·
    replace c5 := Bool.eq_false_iff.mpr c5; subst c5; replace H := iF H; obtain ⟨t102, A60, H⟩ := bE H; have A6 := Aside0.mk A60; clear A60; by_cases c7 : t102 = true
    ·
     subst c7; replace H := iT H; obtain rfl := Option.some.inj H; go_wp2_with (first | ((with_reducible refine gate_callee (f := 53) rfl ?_); refine goesQ (some 10) Try.func53 #[.int .i64 a0, .int .i64 384, .int .i64 447] (spec_l1In.calls a0 384 447 true _ A6.out) fun nd => ?_))
     go_ret; exact ⟨by first | rfl | (simp; done) | (simp [*]; done), by repeat (first | exact Drawn0.refl _ | apply Drawn0.step)⟩
    ·
     replace c7 := Bool.eq_false_iff.mpr c7; subst c7; replace H := iF H; obtain rfl := Option.some.inj H; go_wp2_with (first | ((with_reducible refine gate_callee (f := 53) rfl ?_); refine goesQ (some 10) Try.func53 #[.int .i64 a0, .int .i64 384, .int .i64 447] (spec_l1In.calls a0 384 447 false _ A6.out) fun nd => ?_))
     go_ret; exact ⟨by first | rfl | (simp; done) | (simp [*]; done), by repeat (first | exact Drawn0.refl _ | apply Drawn0.step)⟩

/-! ### spec_l4Code: function 96 -/
mutual
def spec_l4Code.j0 : Nat → Int → Int → Int → Bool → Option (Int)
 | 0, _, _, _, _ => none
 | k + 1, x0, x2, x7, x12 => if x12 = true then (some 2) else ((spec_l4Kind.f k x2).bind fun t101 => (if t101 = 1 then (spec_l4Code.j1 k x0 x2 x7 true) else ((spec_l4Kind.f k x7).bind fun t102 => (spec_l4Code.j1 k x0 x2 x7 (t102 == 1)))))
def spec_l4Code.j1 : Nat → Int → Int → Int → Bool → Option (Int)
 | 0, _, _, _, _ => none
 | k + 1, x0, x2, x7, x20 => if x20 = true then (some 1) else (if x0 = 2 then ((spec_l4Kind.f k x2).bind fun t103 => (if t103 = 3 then (some 3) else ((spec_l4Kind.f k x7).bind fun t104 => (if t104 = 3 then (some 3) else (some 0))))) else (some 0))
end
def spec_l4Code.f (k : Nat) (a0 : Int) (a1 : Int) (a2 : Int) : Option (Int) := if a1 = 2 then (spec_l4Code.j0 k a0 a2 (wrap64 ((wrap64 (a2 + a1)) - 1)) ((Go.bits .and .i64 a2 1) == 1)) else (spec_l4Code.j0 k a0 a2 (wrap64 ((wrap64 (a2 + a1)) - 1)) false)
theorem spec_l4Code.mono_l : ∀ k, (∀ y0 y1 y2 y3, LeO (spec_l4Code.j0 k y0 y1 y2 y3) (spec_l4Code.j0 (k + 1) y0 y1 y2 y3)) ∧ (∀ y0 y1 y2 y3, LeO (spec_l4Code.j1 k y0 y1 y2 y3) (spec_l4Code.j1 (k + 1) y0 y1 y2 y3))
 | 0 => ⟨fun _ _ _ _ r h => by simp [spec_l4Code.j0] at h, fun _ _ _ _ r h => by simp [spec_l4Code.j1] at h⟩
 | k + 1 => by
  obtain ⟨ih0, ih1⟩ := spec_l4Code.mono_l k
  refine ⟨?_, ?_⟩
  ·
   intro y0 y1 y2 y3
   unfold spec_l4Code.j0
   repeat' first
   | (with_reducible exact ih0 _ _ _ _)
   | (with_reducible exact ih1 _ _ _ _)
   | (with_reducible exact spec_l4Kind.mono _ _)
   | (with_reducible exact LeO.refl _)
   | (with_reducible exact LeO.none _)
   | (with_reducible refine LeO.ite ?_ ?_)
   | (with_reducible refine LeO.bind ?_ (fun _ => ?_))
   | exact ih0 _ _ _ _
   | exact ih1 _ _ _ _
   | exact spec_l4Kind.mono _ _
   | exact LeO.none _
   | refine LeO.ite ?_ ?_
   | refine LeO.bind ?_ (fun _ => ?_)
  ·
   intro y0 y1 y2 y3
   unfold spec_l4Code.j1
   repeat' first
   | (with_reducible exact ih0 _ _ _ _)
   | (with_reducible exact ih1 _ _ _ _)
   | (with_reducible exact spec_l4Kind.mono _ _)
   | (with_reducible exact LeO.refl _)
   | (with_reducible exact LeO.none _)
   | (with_reducible refine LeO.ite ?_ ?_)
   | (with_reducible refine LeO.bind ?_ (fun _ => ?_))
   | exact ih0 _ _ _ _
   | exact ih1 _ _ _ _
   | exact spec_l4Kind.mono _ _
   | exact LeO.none _
   | refine LeO.ite ?_ ?_
   | refine LeO.bind ?_ (fun _ => ?_)
theorem spec_l4Code.mono : ∀ a0 a1 a2 k, LeO (spec_l4Code.f k a0 a1 a2) (spec_l4Code.f (k + 1) a0 a1 a2) := by
 intro a0 a1 a2 k
 obtain ⟨ih0, ih1⟩ := spec_l4Code.mono_l k
 unfold spec_l4Code.f
 repeat' first
   | (with_reducible exact ih0 _ _ _ _)
   | (with_reducible exact ih1 _ _ _ _)
   | (with_reducible exact spec_l4Kind.mono _ _)
   | (with_reducible exact LeO.refl _)
   | (with_reducible exact LeO.none _)
   | (with_reducible refine LeO.ite ?_ ?_)
   | (with_reducible refine LeO.bind ?_ (fun _ => ?_))
   | exact ih0 _ _ _ _
   | exact ih1 _ _ _ _
   | exact spec_l4Kind.mono _ _
   | exact LeO.none _
   | refine LeO.ite ?_ ?_
   | refine LeO.bind ?_ (fun _ => ?_)
set_option maxHeartbeats 8000000 in
set_option maxRecDepth 100000 in
theorem spec_l4Code.calls (k : Nat) (a0 : Int) (a1 : Int) (a2 : Int) (r : Int) (w : World) (h : spec_l4Code.f k a0 a1 a2 = some r) :
  Calls Try.prog 96 #[.int .i64 a0, .int .i64 a1, .int .i64 a2] w fun e w' => e = .returned (.int .i64 r) ∧ Drawn0 w w' := by
 have H : (if a1 = 2 then (spec_l4Code.j0 k a0 a2 (wrap64 ((wrap64 (a2 + a1)) - 1)) ((Go.bits .and .i64 a2 1) == 1)) else (spec_l4Code.j0 k a0 a2 (wrap64 ((wrap64 (a2 + a1)) - 1)) false)) = some r := h; clear h; have HC4 := Aside0.mk H; clear H; go_enter Try.func96, Try.ntmps96; go_upto_region 2 with (fail)
 go_cut [12] (fun v12 wc => ∃ (kq : Nat) (x12_3 : Bool), v12 = .bool x12_3 ∧ Aside0 (spec_l4Code.j0 kq a0 a2 (wrap64 ((wrap64 (a2 + a1)) - 1)) x12_3 = some r) ∧ Aside0 (kq ≤ k) ∧ Drawn0 w wc)
 case first =>
  have H := HC4.out; clear HC4; by_cases c5 : a1 = 2
  · rw [if_pos c5] at H; obtain ⟨c5b0, c5b1⟩ := eT c5; clear c5; (first | rw [c5b0] | (simp only [i64_w, i32_w]; rw [c5b0]) | skip); have H' := Aside0.mk H; clear H; go_wp2; go_meet; case rel => exact ⟨_, (((Go.bits .and .i64 a2 1) == 1)), (by first | rfl | (simp; done) | (simp [*]; done)), H', ⟨by first | omega | exact Nat.le_refl _⟩, by repeat (first | exact Drawn0.refl _ | apply Drawn0.step)⟩
  · rw [if_neg c5] at H; obtain ⟨c5b0, c5b1⟩ := eF c5; (first | rw [c5b0] | (simp only [i64_w, i32_w]; rw [c5b0]) | skip); have H' := Aside0.mk H; clear H; go_wp2; go_meet; case rel => exact ⟨_, (false), (by first | rfl | (simp; done) | (simp [*]; done)), H', ⟨by first | omega | exact Nat.le_refl _⟩, by repeat (first | exact Drawn0.refl _ | apply Drawn0.step)⟩
 case rest =>
  clear HC4; (try clear p2); (try clear c5); (try clear c5b0); (try clear c5b1); obtain ⟨kq, x12_3, rfl, HA, HJ3, ⟨mc3, rfl⟩⟩ := hcut; cases kq with
  | zero => exact absurd HA.out (by simp [spec_l4Code.j0])
  | succ kj3 =>
   have H := HA.out; clear HA; simp only [spec_l4Code.j0] at H; by_cases c6 : x12_3 = true
   · subst c6; replace H := iT H; obtain rfl := Option.some.inj H; go_wp2; go_ret; exact ⟨by first | rfl | (simp; done) | (simp [*]; done), by repeat (first | exact Drawn0.refl _ | apply Drawn0.step)⟩
   ·
    replace c6 := Bool.eq_false_iff.mpr c6; subst c6; replace H := iF H; have HC7 := Aside0.mk H; clear H; go_upto_region 4 with (fail)
    go_cut [20] (fun v20 wc => ∃ (kq : Nat) (x20_6 : Bool), v20 = .bool x20_6 ∧ Aside0 (spec_l4Code.j1 kq a0 a2 (wrap64 ((wrap64 (a2 + a1)) - 1)) x20_6 = some r) ∧ Aside0 (kq ≤ kj3) ∧ Drawn0 w wc)
    case first =>
     have H := HC7.out; clear HC7; obtain ⟨t101, A80, H⟩ := bE H; have A8 := Aside0.mk A80; clear A80; by_cases c9 : t101 = 1
     ·
      rw [if_pos c9] at H; obtain ⟨c9b0, c9b1⟩ := eT c9; clear c9; (first | rw [c9b0] | (simp only [i64_w, i32_w]; rw [c9b0]) | skip); have H' := Aside0.mk H; clear H; go_wp2_with (first | ((with_reducible refine gate_callee (f := 114) rfl ?_); refine goesQ (some 22) Try.func114 #[.int .i64 a2] (spec_l4Kind.calls kj3 a2 t101 _ A8.out) fun nd => ?_))
      go_meet; case rel => exact ⟨_, (true), (by first | rfl | (simp; done) | (simp [*]; done)), H', ⟨by have := HJ3.out; first | omega | exact Nat.le_refl _⟩, by repeat (first | exact Drawn0.refl _ | apply Drawn0.step)⟩
     ·
      rw [if_neg c9] at H; obtain ⟨c9b0, c9b1⟩ := eF c9; (first | rw [c9b0] | (simp only [i64_w, i32_w]; rw [c9b0]) | skip); obtain ⟨t102, A100, H⟩ := bE H; have A10 := Aside0.mk A100; clear A100; have H' := Aside0.mk H; clear H; go_wp2_with (first | ((with_reducible refine gate_callee (f := 114) rfl ?_); refine goesQ (some 22) Try.func114 #[.int .i64 a2] (spec_l4Kind.calls kj3 a2 t101 _ A8.out) fun nd => ?_) | (go_at_call 114; (with_reducible refine (spec_l4Kind.calls kj3 (wrap64 ((wrap64 (a2 + a1)) - 1)) t102 _ A10.out).mono ?_); rintro e w' ⟨rfl, ⟨nd, rfl⟩⟩))
      go_meet; case rel => exact ⟨_, ((t102 == 1)), (by first | rfl | (simp; done) | (simp [*]; done)), H', ⟨by have := HJ3.out; first | omega | exact Nat.le_refl _⟩, by repeat (first | exact Drawn0.refl _ | apply Drawn0.step)⟩
    case rest =>
     clear HC7; (try clear c1); (try clear p2); (try clear c3); (try clear c5); (try clear c5b0); (try clear c5b1); (try clear c6); (try clear p6); (try clear c9); (try clear c9b0); (try clear c9b1); (try clear p2); obtain ⟨kq, x20_6, rfl, HA, HJ6, ⟨mc6, rfl⟩⟩ := hcut; cases kq with
     | zero => exact absurd HA.out (by simp [spec_l4Code.j1])
     | succ kj6 =>
      have H := HA.out; clear HA; simp only [spec_l4Code.j1] at H; by_cases c11 : x20_6 = true
      · subst c11; replace H := iT H; obtain rfl := Option.some.inj H; go_wp2; go_ret; exact ⟨by first | rfl | (simp; done) | (simp [*]; done), by repeat (first | exact Drawn0.refl _ | apply Drawn0.step)⟩
      ·
       replace c11 := Bool.eq_false_iff.mpr c11; subst c11; replace H := iF H; by_cases c12 : a0 = 2
       ·
        rw [if_pos c12] at H; obtain ⟨c12b0, c12b1⟩ := eT c12; clear c12; obtain ⟨t103, A130, H⟩ := bE H; have A13 := Aside0.mk A130; clear A130; by_cases c14 : t103 = 3
        ·
         rw [if_pos c14] at H; obtain ⟨c14b0, c14b1⟩ := eT c14; clear c14; obtain rfl := Option.some.inj H; go_wp2_with (first | (go_at_call 114; (with_reducible refine (spec_l4Kind.calls kj6 a2 t103 _ A13.out).mono ?_); rintro e w' ⟨rfl, ⟨nd, rfl⟩⟩))
         go_ret; exact ⟨by first | rfl | (simp; done) | (simp [*]; done), by repeat (first | exact Drawn0.refl _ | apply Drawn0.step)⟩
        ·
         rw [if_neg c14] at H; obtain ⟨c14b0, c14b1⟩ := eF c14; obtain ⟨t104, A150, H⟩ := bE H; have A15 := Aside0.mk A150; clear A150; by_cases c16 : t104 = 3
         ·
          rw [if_pos c16] at H; obtain ⟨c16b0, c16b1⟩ := eT c16; clear c16; obtain rfl := Option.some.inj H; go_wp2_with (first | (go_at_call 114; (with_reducible refine (spec_l4Kind.calls kj6 a2 t103 _ A13.out).mono ?_); rintro e w' ⟨rfl, ⟨nd, rfl⟩⟩) | (go_at_call 114; (with_reducible refine (spec_l4Kind.calls kj6 (wrap64 ((wrap64 (a2 + a1)) - 1)) t104 _ A15.out).mono ?_); rintro e w' ⟨rfl, ⟨nd, rfl⟩⟩))
          go_ret; exact ⟨by first | rfl | (simp; done) | (simp [*]; done), by repeat (first | exact Drawn0.refl _ | apply Drawn0.step)⟩
         ·
          rw [if_neg c16] at H; obtain ⟨c16b0, c16b1⟩ := eF c16; obtain rfl := Option.some.inj H; go_wp2_with (first | (go_at_call 114; (with_reducible refine (spec_l4Kind.calls kj6 a2 t103 _ A13.out).mono ?_); rintro e w' ⟨rfl, ⟨nd, rfl⟩⟩) | (go_at_call 114; (with_reducible refine (spec_l4Kind.calls kj6 (wrap64 ((wrap64 (a2 + a1)) - 1)) t104 _ A15.out).mono ?_); rintro e w' ⟨rfl, ⟨nd, rfl⟩⟩))
          go_ret; exact ⟨by first | rfl | (simp; done) | (simp [*]; done), by repeat (first | exact Drawn0.refl _ | apply Drawn0.step)⟩
       · rw [if_neg c12] at H; obtain ⟨c12b0, c12b1⟩ := eF c12; obtain rfl := Option.some.inj H; go_wp2; go_ret; exact ⟨by first | rfl | (simp; done) | (simp [*]; done), by repeat (first | exact Drawn0.refl _ | apply Drawn0.step)⟩

end Go.Proofs.Ytlebikjghlaooaa.P
