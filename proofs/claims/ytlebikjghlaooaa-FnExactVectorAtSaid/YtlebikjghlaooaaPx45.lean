-- Made by this session's program gprint.py out of the translation. Not trusted: Lean checks it.
import Derived.Test.YtlebikjghlaooaaPx0
import Derived.Test.YtlebikjghlaooaaPx11
namespace Go.Proofs.Ytlebikjghlaooaa.P
open Go.RowKit Go.Proofs.YtlebikjghlaooaaW.PrintWords Go.Proofs.YtlebikjghlaooaaW.PrintLast Go.Proofs.YtlebikjghlaooaaW.PrintMore
attribute [local go_sem] max2_int min2_int max_two min_two max_three min_three max_four min_four   -- for this text's walks alone
set_option linter.unusedVariables false
set_option linter.unusedSimpArgs false

/-! ### impl_kindOf: function 115 -/
def impl_kindOf.j0 : Nat → Int → Bool → Option (Int)
 | 0, _, _ => none
 | k + 1, x0, x3 => if x3 = true then (some 1) else ((impl_within.f x0 384 447).bind fun t102 => (if t102 = true then (some 3) else (some 0)))
def impl_kindOf.f (k : Nat) (a0 : Int) : Option (Int) := (impl_within.f a0 448 495).bind fun t101 => (if t101 = true then (impl_kindOf.j0 k a0 true) else (impl_kindOf.j0 k a0 (decide (a0 ≥ 512))))
theorem impl_kindOf.mono_l : ∀ k, (∀ y0 y1, LeO (impl_kindOf.j0 k y0 y1) (impl_kindOf.j0 (k + 1) y0 y1))
 | 0 => fun _ _ r h => by simp [impl_kindOf.j0] at h
 | k + 1 => by
  have ih0 := impl_kindOf.mono_l k
  ·
   intro y0 y1
   unfold impl_kindOf.j0
   repeat' first
   | (with_reducible exact ih0 _ _)
   | (with_reducible exact LeO.refl _)
   | (with_reducible exact LeO.none _)
   | (with_reducible refine LeO.ite ?_ ?_)
   | (with_reducible refine LeO.bind ?_ (fun _ => ?_))
   | exact ih0 _ _
   | exact LeO.none _
   | refine LeO.ite ?_ ?_
   | refine LeO.bind ?_ (fun _ => ?_)
theorem impl_kindOf.mono : ∀ a0 k, LeO (impl_kindOf.f k a0) (impl_kindOf.f (k + 1) a0) := by
 intro a0 k
 have ih0 := impl_kindOf.mono_l k
 unfold impl_kindOf.f
 repeat' first
   | (with_reducible exact ih0 _ _)
   | (with_reducible exact LeO.refl _)
   | (with_reducible exact LeO.none _)
   | (with_reducible refine LeO.ite ?_ ?_)
   | (with_reducible refine LeO.bind ?_ (fun _ => ?_))
   | exact ih0 _ _
   | exact LeO.none _
   | refine LeO.ite ?_ ?_
   | refine LeO.bind ?_ (fun _ => ?_)
set_option maxHeartbeats 8000000 in
set_option maxRecDepth 100000 in
theorem impl_kindOf.calls (k : Nat) (a0 : Int) (r : Int) (w : World) (h : impl_kindOf.f k a0 = some r) :
  Calls Try.prog 115 #[.int .i64 a0] w fun e w' => e = .returned (.int .i64 r) ∧ Drawn0 w w' := by
 have H : ((impl_within.f a0 448 495).bind fun t101 => (if t101 = true then (impl_kindOf.j0 k a0 true) else (impl_kindOf.j0 k a0 (decide (a0 ≥ 512))))) = some r := h; clear h; have HC2 := Aside0.mk H; clear H; go_enter Try.func115, Try.ntmps115; go_upto_region 1 with (fail)
 go_cut [3] (fun v3 wc => ∃ (kq : Nat) (x3_1 : Bool), v3 = .bool x3_1 ∧ Aside0 (impl_kindOf.j0 kq a0 x3_1 = some r) ∧ Aside0 (kq ≤ k) ∧ Drawn0 w wc)
 case first =>
  have H := HC2.out; clear HC2; obtain ⟨t101, A30, H⟩ := bE H; have A3 := Aside0.mk A30; clear A30; by_cases c4 : t101 = true
  ·
   subst c4; replace H := iT H; have H' := Aside0.mk H; clear H; go_wp2_with (first | ((with_reducible refine gate_callee (f := 54) rfl ?_); refine goesQ (some 5) Try.func54 #[.int .i64 a0, .int .i64 448, .int .i64 495] (impl_within.calls a0 448 495 true _ A3.out) fun nd => ?_))
   go_meet; case rel => exact ⟨_, (true), (by first | rfl | (simp; done) | (simp [*]; done)), H', ⟨by first | omega | exact Nat.le_refl _⟩, by repeat (first | exact Drawn0.refl _ | apply Drawn0.step)⟩
  ·
   replace c4 := Bool.eq_false_iff.mpr c4; subst c4; replace H := iF H; have H' := Aside0.mk H; clear H; go_wp2_with (first | ((with_reducible refine gate_callee (f := 54) rfl ?_); refine goesQ (some 5) Try.func54 #[.int .i64 a0, .int .i64 448, .int .i64 495] (impl_within.calls a0 448 495 false _ A3.out) fun nd => ?_))
   go_meet; case rel => exact ⟨_, (decide (a0 ≥ 512)), (by first | rfl | (simp; done) | (simp [*]; done)), H', ⟨by first | omega | exact Nat.le_refl _⟩, by repeat (first | exact Drawn0.refl _ | apply Drawn0.step)⟩
 case rest =>
  clear HC2; (try clear c1); (try clear p2); (try clear c4); obtain ⟨kq, x3_1, rfl, HA, HJ1, ⟨mc1, rfl⟩⟩ := hcut; cases kq with
  | zero => exact absurd HA.out (by simp [impl_kindOf.j0])
  | succ kj1 =>
   have H := HA.out; clear HA; simp only [impl_kindOf.j0] at H; by_cases c5 : x3_1 = true
   · subst c5; replace H := iT H; obtain rfl := Option.some.inj H; go_wp2; go_ret; exact ⟨by first | rfl | (simp; done) | (simp [*]; done), by repeat (first | exact Drawn0.refl _ | apply Drawn0.step)⟩
   ·
    replace c5 := Bool.eq_false_iff.mpr c5; subst c5; replace H := iF H; obtain ⟨t102, A60, H⟩ := bE H; have A6 := Aside0.mk A60; clear A60; by_cases c7 : t102 = true
    ·
     subst c7; replace H := iT H; obtain rfl := Option.some.inj H; go_wp2_with (first | ((with_reducible refine gate_callee (f := 54) rfl ?_); refine goesQ (some 12) Try.func54 #[.int .i64 a0, .int .i64 384, .int .i64 447] (impl_within.calls a0 384 447 true _ A6.out) fun nd => ?_))
     go_ret; exact ⟨by first | rfl | (simp; done) | (simp [*]; done), by repeat (first | exact Drawn0.refl _ | apply Drawn0.step)⟩
    ·
     replace c7 := Bool.eq_false_iff.mpr c7; subst c7; replace H := iF H; obtain rfl := Option.some.inj H; go_wp2_with (first | ((with_reducible refine gate_callee (f := 54) rfl ?_); refine goesQ (some 12) Try.func54 #[.int .i64 a0, .int .i64 384, .int .i64 447] (impl_within.calls a0 384 447 false _ A6.out) fun nd => ?_))
     go_ret; exact ⟨by first | rfl | (simp; done) | (simp [*]; done), by repeat (first | exact Drawn0.refl _ | apply Drawn0.step)⟩

/-! ### impl_codeOf: function 97 -/
mutual
def impl_codeOf.j0 : Nat → Int → Int → Int → Bool → Option (Int)
 | 0, _, _, _, _ => none
 | k + 1, x0, x1, x2, x15 => if x15 = true then (some 2) else ((impl_kindOf.f k x2).bind fun t101 => ((impl_kindOf.f k (wrap64 ((wrap64 (x2 + x1)) - 1))).bind fun t102 => (if t101 = 1 then (impl_codeOf.j1 k x0 t101 t102 true) else (impl_codeOf.j1 k x0 t101 t102 (t102 == 1)))))
def impl_codeOf.j1 : Nat → Int → Int → Int → Bool → Option (Int)
 | 0, _, _, _, _ => none
 | k + 1, x0, x7, x8, x23 => if x23 = true then (some 1) else (if x0 = 2 then (if x7 = 3 then (some 3) else (if x8 = 3 then (some 3) else (some 0))) else (some 0))
end
def impl_codeOf.f (k : Nat) (a0 : Int) (a1 : Int) (a2 : Int) : Option (Int) := if a1 = 2 then (impl_codeOf.j0 k a0 a1 a2 ((Int.tmod a2 2) == 1)) else (impl_codeOf.j0 k a0 a1 a2 false)
theorem impl_codeOf.mono_l : ∀ k, (∀ y0 y1 y2 y3, LeO (impl_codeOf.j0 k y0 y1 y2 y3) (impl_codeOf.j0 (k + 1) y0 y1 y2 y3)) ∧ (∀ y0 y1 y2 y3, LeO (impl_codeOf.j1 k y0 y1 y2 y3) (impl_codeOf.j1 (k + 1) y0 y1 y2 y3))
 | 0 => ⟨fun _ _ _ _ r h => by simp [impl_codeOf.j0] at h, fun _ _ _ _ r h => by simp [impl_codeOf.j1] at h⟩
 | k + 1 => by
  obtain ⟨ih0, ih1⟩ := impl_codeOf.mono_l k
  refine ⟨?_, ?_⟩
  ·
   intro y0 y1 y2 y3
   unfold impl_codeOf.j0
   repeat' first
   | (with_reducible exact ih0 _ _ _ _)
   | (with_reducible exact ih1 _ _ _ _)
   | (with_reducible exact impl_kindOf.mono _ _)
   | (with_reducible exact LeO.refl _)
   | (with_reducible exact LeO.none _)
   | (with_reducible refine LeO.ite ?_ ?_)
   | (with_reducible refine LeO.bind ?_ (fun _ => ?_))
   | exact ih0 _ _ _ _
   | exact ih1 _ _ _ _
   | exact impl_kindOf.mono _ _
   | exact LeO.none _
   | refine LeO.ite ?_ ?_
   | refine LeO.bind ?_ (fun _ => ?_)
  ·
   intro y0 y1 y2 y3
   unfold impl_codeOf.j1
   repeat' first
   | (with_reducible exact ih0 _ _ _ _)
   | (with_reducible exact ih1 _ _ _ _)
   | (with_reducible exact impl_kindOf.mono _ _)
   | (with_reducible exact LeO.refl _)
   | (with_reducible exact LeO.none _)
   | (with_reducible refine LeO.ite ?_ ?_)
   | (with_reducible refine LeO.bind ?_ (fun _ => ?_))
   | exact ih0 _ _ _ _
   | exact ih1 _ _ _ _
   | exact impl_kindOf.mono _ _
   | exact LeO.none _
   | refine LeO.ite ?_ ?_
   | refine LeO.bind ?_ (fun _ => ?_)
theorem impl_codeOf.mono : ∀ a0 a1 a2 k, LeO (impl_codeOf.f k a0 a1 a2) (impl_codeOf.f (k + 1) a0 a1 a2) := by
 intro a0 a1 a2 k
 obtain ⟨ih0, ih1⟩ := impl_codeOf.mono_l k
 unfold impl_codeOf.f
 repeat' first
   | (with_reducible exact ih0 _ _ _ _)
   | (with_reducible exact ih1 _ _ _ _)
   | (with_reducible exact impl_kindOf.mono _ _)
   | (with_reducible exact LeO.refl _)
   | (with_reducible exact LeO.none _)
   | (with_reducible refine LeO.ite ?_ ?_)
   | (with_reducible refine LeO.bind ?_ (fun _ => ?_))
   | exact ih0 _ _ _ _
   | exact ih1 _ _ _ _
   | exact impl_kindOf.mono _ _
   | exact LeO.none _
   | refine LeO.ite ?_ ?_
   | refine LeO.bind ?_ (fun _ => ?_)
set_option maxHeartbeats 8000000 in
set_option maxRecDepth 100000 in
theorem impl_codeOf.calls (k : Nat) (a0 : Int) (a1 : Int) (a2 : Int) (r : Int) (w : World) (h : impl_codeOf.f k a0 a1 a2 = some r) :
  Calls Try.prog 97 #[.int .i64 a0, .int .i64 a1, .int .i64 a2] w fun e w' => e = .returned (.int .i64 r) ∧ Drawn0 w w' := by
 have H : (if a1 = 2 then (impl_codeOf.j0 k a0 a1 a2 ((Int.tmod a2 2) == 1)) else (impl_codeOf.j0 k a0 a1 a2 false)) = some r := h; clear h; have HC4 := Aside0.mk H; clear H; go_enter Try.func97, Try.ntmps97; go_upto_region 1 with (fail)
 go_cut [15] (fun v15 wc => ∃ (kq : Nat) (x15_3 : Bool), v15 = .bool x15_3 ∧ Aside0 (impl_codeOf.j0 kq a0 a1 a2 x15_3 = some r) ∧ Aside0 (kq ≤ k) ∧ Drawn0 w wc)
 case first =>
  have H := HC4.out; clear HC4; by_cases c5 : a1 = 2
  · rw [if_pos c5] at H; obtain ⟨c5b0, c5b1⟩ := eT c5; clear c5; (first | rw [c5b0] | (simp only [i64_w, i32_w]; rw [c5b0]) | skip); have H' := Aside0.mk H; clear H; go_wp2; go_meet; case rel => exact ⟨_, (((Int.tmod a2 2) == 1)), (by first | rfl | (simp; done) | (simp [*]; done)), H', ⟨by first | omega | exact Nat.le_refl _⟩, by repeat (first | exact Drawn0.refl _ | apply Drawn0.step)⟩
  · rw [if_neg c5] at H; obtain ⟨c5b0, c5b1⟩ := eF c5; (first | rw [c5b0] | (simp only [i64_w, i32_w]; rw [c5b0]) | skip); have H' := Aside0.mk H; clear H; go_wp2; go_meet; case rel => exact ⟨_, (false), (by first | rfl | (simp; done) | (simp [*]; done)), H', ⟨by first | omega | exact Nat.le_refl _⟩, by repeat (first | exact Drawn0.refl _ | apply Drawn0.step)⟩
 case rest =>
  clear HC4; (try clear p2); (try clear c5); (try clear c5b0); (try clear c5b1); obtain ⟨kq, x15_3, rfl, HA, HJ3, ⟨mc3, rfl⟩⟩ := hcut; cases kq with
  | zero => exact absurd HA.out (by simp [impl_codeOf.j0])
  | succ kj3 =>
   have H := HA.out; clear HA; simp only [impl_codeOf.j0] at H; by_cases c6 : x15_3 = true
   · subst c6; replace H := iT H; obtain rfl := Option.some.inj H; go_wp2; go_ret; exact ⟨by first | rfl | (simp; done) | (simp [*]; done), by repeat (first | exact Drawn0.refl _ | apply Drawn0.step)⟩
   ·
    replace c6 := Bool.eq_false_iff.mpr c6; subst c6; replace H := iF H; obtain ⟨t101, A70, H⟩ := bE H; have A7 := Aside0.mk A70; clear A70; obtain ⟨t102, A80, H⟩ := bE H; have A8 := Aside0.mk A80; clear A80; have HC9 := Aside0.mk H; clear H; go_upto_region 4 with (first | ((with_reducible refine gate_callee (f := 115) rfl ?_); refine goesQ (some 17) Try.func115 #[.int .i64 a2] (impl_kindOf.calls kj3 a2 t101 _ A7.out) fun nd => ?_) | ((with_reducible refine gate_callee (f := 115) rfl ?_); refine goesQ (some 22) Try.func115 #[.int .i64 (wrap64 ((wrap64 (a2 + a1)) - 1))] (impl_kindOf.calls kj3 (wrap64 ((wrap64 (a2 + a1)) - 1)) t102 _ A8.out) fun nd => ?_))
    (try simp only [Act.put, List.setIfInBounds_toArray, List.set_cons_zero, List.set_cons_succ]); go_cut [23] (fun v23 wc => ∃ (kq : Nat) (x23_8 : Bool), v23 = .bool x23_8 ∧ Aside0 (impl_codeOf.j1 kq a0 t101 t102 x23_8 = some r) ∧ Aside0 (kq ≤ kj3) ∧ Drawn0 w wc)
    case first =>
     have H := HC9.out; clear HC9; by_cases c10 : t101 = 1
     · rw [if_pos c10] at H; obtain ⟨c10b0, c10b1⟩ := eT c10; clear c10; (first | rw [c10b0] | (simp only [i64_w, i32_w]; rw [c10b0]) | skip); have H' := Aside0.mk H; clear H; go_wp2; go_meet; case rel => exact ⟨_, (true), (by first | rfl | (simp; done) | (simp [*]; done)), H', ⟨by have := HJ3.out; first | omega | exact Nat.le_refl _⟩, by repeat (first | exact Drawn0.refl _ | apply Drawn0.step)⟩
     · rw [if_neg c10] at H; obtain ⟨c10b0, c10b1⟩ := eF c10; (first | rw [c10b0] | (simp only [i64_w, i32_w]; rw [c10b0]) | skip); have H' := Aside0.mk H; clear H; go_wp2; go_meet; case rel => exact ⟨_, ((t102 == 1)), (by first | rfl | (simp; done) | (simp [*]; done)), H', ⟨by have := HJ3.out; first | omega | exact Nat.le_refl _⟩, by repeat (first | exact Drawn0.refl _ | apply Drawn0.step)⟩
    case rest =>
     clear HC9; (try clear c1); (try clear p2); (try clear c3); (try clear c5); (try clear c5b0); (try clear c5b1); (try clear c6); (try clear p6); (try clear c9); (try clear c10); (try clear c10b0); (try clear c10b1); (try clear p2); obtain ⟨kq, x23_8, rfl, HA, HJ8, ⟨mc8, rfl⟩⟩ := hcut; cases kq with
     | zero => exact absurd HA.out (by simp [impl_codeOf.j1])
     | succ kj8 =>
      have H := HA.out; clear HA; simp only [impl_codeOf.j1] at H; by_cases c11 : x23_8 = true
      · subst c11; replace H := iT H; obtain rfl := Option.some.inj H; go_wp2; go_ret; exact ⟨by first | rfl | (simp; done) | (simp [*]; done), by repeat (first | exact Drawn0.refl _ | apply Drawn0.step)⟩
      ·
       replace c11 := Bool.eq_false_iff.mpr c11; subst c11; replace H := iF H; by_cases c12 : a0 = 2
       ·
        rw [if_pos c12] at H; obtain ⟨c12b0, c12b1⟩ := eT c12; clear c12; by_cases c13 : t101 = 3
        · rw [if_pos c13] at H; obtain ⟨c13b0, c13b1⟩ := eT c13; clear c13; obtain rfl := Option.some.inj H; go_wp2; go_ret; exact ⟨by first | rfl | (simp; done) | (simp [*]; done), by repeat (first | exact Drawn0.refl _ | apply Drawn0.step)⟩
        ·
         rw [if_neg c13] at H; obtain ⟨c13b0, c13b1⟩ := eF c13; by_cases c14 : t102 = 3
         · rw [if_pos c14] at H; obtain ⟨c14b0, c14b1⟩ := eT c14; clear c14; obtain rfl := Option.some.inj H; go_wp2; go_ret; exact ⟨by first | rfl | (simp; done) | (simp [*]; done), by repeat (first | exact Drawn0.refl _ | apply Drawn0.step)⟩
         · rw [if_neg c14] at H; obtain ⟨c14b0, c14b1⟩ := eF c14; obtain rfl := Option.some.inj H; go_wp2; go_ret; exact ⟨by first | rfl | (simp; done) | (simp [*]; done), by repeat (first | exact Drawn0.refl _ | apply Drawn0.step)⟩
       · rw [if_neg c12] at H; obtain ⟨c12b0, c12b1⟩ := eF c12; obtain rfl := Option.some.inj H; go_wp2; go_ret; exact ⟨by first | rfl | (simp; done) | (simp [*]; done), by repeat (first | exact Drawn0.refl _ | apply Drawn0.step)⟩

/-- A state of type 35 at block g of W; what its slices lead to came in by w0. -/
def IsS35 (w0 W : World) (g : Nat) (f0 : List Int) (f1 : List (S75)) : Prop := ∃ A0 c0, ∃ A1 c1, W.heap[g]? = some (.cells #[.slice A0 f0.length c0, .slice A1 f1.length c1] 35 (0, 0)) ∧ w0.heap.size ≤ g ∧ Kd.C (Kd.int .i64) w0 A0 f0.length f0 ∧ Kd.C k75 w0 A1 f1.length f1
theorem IsS35.grown {w0 W : World} {g : Nat} {f0 : List Int} {f1 : List (S75)} {W1 : World} {row : Option Nat} (h : IsS35 w0 W g f0 f1) (hw : W.grownBy W1 row) (hne : some g ≠ row) : IsS35 w0 W1 g f0 f1 := by
 obtain ⟨A0, c0, A1, c1, hb, hg, hr0, hr1⟩ := h
 exact ⟨A0, c0, A1, c1, blk_grown hb hw hne, hg, hr0, hr1⟩
theorem IsS35.own_neN {w0 W : World} {g : Nat} {f0 : List Int} {f1 : List (S75)} {α : Type} {d : Kd α} {e : Nat} {base : Nat} {ok : Nat → Prop} {v : Value} {xs : List α} (h : IsS35 w0 W g f0 f1) (ho : Kd.N d e W base ok v xs) (ht : e ≠ 35) : some g ≠ v.ownBlock := by
 obtain ⟨A0, c0, A1, c1, hb, hg, hr0, hr1⟩ := h
 exact Kd.N_ne ho hb ht
theorem IsS35.fresh {w0 W : World} {g : Nat} {f0 : List Int} {f1 : List (S75)} (h : IsS35 w0 W g f0 f1) : ∀ k, W.heap.size ≤ k → k ≠ g := by
 obtain ⟨A0, c0, A1, c1, hb, hg, hr0, hr1⟩ := h
 exact Kd.freshB hb
theorem IsS35.kept {w0 W : World} {g : Nat} {f0 : List Int} {f1 : List (S75)} {W1 : World} {S : Nat → Prop} (h : IsS35 w0 W g f0 f1) (hk : Kept W W1 S) (hne : ¬ S g) : IsS35 w0 W1 g f0 f1 := by
 obtain ⟨A0, c0, A1, c1, hb, hg, hr0, hr1⟩ := h
 exact ⟨A0, c0, A1, c1, blk_kept hb hk hne, hg, hr0, hr1⟩
theorem IsS35.below {w0 W : World} {g : Nat} {f0 : List Int} {f1 : List (S75)} {W1 : World} (h : IsS35 w0 W g f0 f1) (hw : Below W.heap.size W W1) : IsS35 w0 W1 g f0 f1 := h.grown (grown_of_below hw none) (by simp)
theorem IsS35.alloc {w0 W : World} {g : Nat} {f0 : List Int} {f1 : List (S75)} (h : IsS35 w0 W g f0 f1) (o : Obj) : IsS35 w0 (W.alloc o) g f0 f1 := h.below (below_alloc (Below.refl _ _) o)
theorem IsS35.drewN {w0 W : World} {g : Nat} {f0 : List Int} {f1 : List (S75)} (h : IsS35 w0 W g f0 f1) (m : Nat) : IsS35 w0 (W.drewN m) g f0 f1 := h
theorem IsS35.drew {w0 W : World} {g : Nat} {f0 : List Int} {f1 : List (S75)} (h : IsS35 w0 W g f0 f1) : IsS35 w0 W.drew g f0 f1 := h
theorem IsS35.at_ {w0 W : World} {g : Nat} {f0 : List Int} {f1 : List (S75)} {w' : World} {m : Nat} (hq : W.drewN m = w') (h : IsS35 w0 W g f0 f1) : IsS35 w0 w' g f0 f1 := by subst hq; exact IsS35.drewN h m
theorem IsS35.apart {w0 W : World} {g : Nat} {f0 : List Int} {f1 : List (S75)} {α : Type} {d : Kd α} {e : Nat} {base : Nat} {ok : Nat → Prop} {v : Value} {xs : List α} (h : IsS35 w0 W g f0 f1) (ho : d.R e W base ok v xs) (ht : ∀ q, q ∈ e :: d.E → q ≠ 35) : d.R e W base (fun k => ok k ∧ k ≠ g) v xs := by
 obtain ⟨A0, c0, A1, c1, hb, hg, hr0, hr1⟩ := h
 exact Kd.R_types ho hb ht
theorem IsS35.own_ne {w0 W : World} {g : Nat} {f0 : List Int} {f1 : List (S75)} {α : Type} {d : Kd α} {e : Nat} {base : Nat} {ok : Nat → Prop} {v : Value} {xs : List α} (h : IsS35 w0 W g f0 f1) (ho : d.R e W base ok v xs) (ht : e ≠ 35) : some g ≠ v.ownBlock := by
 obtain ⟨A0, c0, A1, c1, hb, hg, hr0, hr1⟩ := h
 exact Kd.R_ne ho hb ht
theorem IsS35.apartQ {w0 W : World} {g : Nat} {f0 : List Int} {f1 : List (S75)} {α : Type} {d : Kd α} {e : Nat} {base : Nat} {ok : Nat → Prop} {v : Value} {xs : List α} (h : IsS35 w0 W g f0 f1) (ho : d.Q e W base ok v xs) (ht : ∀ q, q ∈ e :: d.E → q ≠ 35) : d.Q e W base (fun k => ok k ∧ k ≠ g) v xs := by
 obtain ⟨A0, c0, A1, c1, hb, hg, hr0, hr1⟩ := h
 exact Kd.Q_types ho hb ht
theorem IsS35.own_neQ {w0 W : World} {g : Nat} {f0 : List Int} {f1 : List (S75)} {α : Type} {d : Kd α} {e : Nat} {base : Nat} {ok : Nat → Prop} {v : Value} {xs : List α} (h : IsS35 w0 W g f0 f1) (ho : d.Q e W base ok v xs) (ht : e ≠ 35) : some g ≠ v.ownBlock := by
 obtain ⟨A0, c0, A1, c1, hb, hg, hr0, hr1⟩ := h
 exact Kd.Q_ne ho hb ht
theorem IsS35.apartS {w0 W : World} {g : Nat} {f0 : List Int} {f1 : List (S75)} {α : Type} {d : Kd α} {e : Nat} {base : Nat} {ok : Nat → Prop} {v : Value} {xs : List α} (h : IsS35 w0 W g f0 f1) (ho : d.S e W base ok v xs) (ht : ∀ q, q ∈ e :: d.E → q ≠ 35) : d.S e W base (fun k => ok k ∧ k ≠ g) v xs := by
 obtain ⟨A0, c0, A1, c1, hb, hg, hr0, hr1⟩ := h
 exact Kd.S_types ho hb ht
theorem IsS35.own_neS {w0 W : World} {g : Nat} {f0 : List Int} {f1 : List (S75)} {α : Type} {d : Kd α} {e : Nat} {base : Nat} {ok : Nat → Prop} {v : Value} {xs : List α} (h : IsS35 w0 W g f0 f1) (ho : d.S e W base ok v xs) (ht : e ≠ 35) : some g ≠ v.ownBlock := by
 obtain ⟨A0, c0, A1, c1, hb, hg, hr0, hr1⟩ := h
 exact Kd.S_ne ho hb ht
theorem IsS35.lt {w0 W : World} {g : Nat} {f0 : List Int} {f1 : List (S75)} (h : IsS35 w0 W g f0 f1) : g < W.heap.size := by
 obtain ⟨A0, c0, A1, c1, hb, hg, hr0, hr1⟩ := h
 exact blk_lt hb
theorem IsS35.ge {w0 W : World} {g : Nat} {f0 : List Int} {f1 : List (S75)} (h : IsS35 w0 W g f0 f1) : w0.heap.size ≤ g := by
 obtain ⟨A0, c0, A1, c1, hb, hg, hr0, hr1⟩ := h
 exact hg
theorem IsS35.ne_blk {w0 W : World} {g : Nat} {f0 : List Int} {f1 : List (S75)} {a : Nat} {cs : Array Value} {t : TypeId} {fr : Nat × Nat} (h : IsS35 w0 W g f0 f1) (hb2 : W.heap[a]? = some (.cells cs t fr)) (ht : t ≠ 35) : g ≠ a := by
 obtain ⟨A0, c0, A1, c1, hb, hg, hr0, hr1⟩ := h
 rintro rfl
 rw [hb] at hb2
 injection hb2 with hb2
 injection hb2 with _ ht2
 exact ht ht2.symm
theorem IsS35.far {w0 W : World} {g : Nat} {f0 : List Int} {f1 : List (S75)} {p : Addr} (h : IsS35 w0 W g f0 f1) (hne : g ≠ p.block) (u : Value) : IsS35 w0 (W.setCell p u) g f0 f1 := by
 obtain ⟨A0, c0, A1, c1, hb, hg, hr0, hr1⟩ := h
 exact ⟨A0, c0, A1, c1, blk_far hb hne u, hg, hr0, hr1⟩
theorem cellS35_0 {W : World} {g : Nat} {A0 : Option Addr} {c0 : Nat} {A1 : Option Addr} {c1 : Nat} {f0 : List Int} {f1 : List (S75)} (h : W.heap[g]? = some (.cells #[.slice A0 f0.length c0, .slice A1 f1.length c1] 35 (0, 0))) : W.cell? ⟨g, 0, none⟩ = some (.slice A0 f0.length c0) := (blk_cell h 0).trans rfl
theorem cellS35_1 {W : World} {g : Nat} {A0 : Option Addr} {c0 : Nat} {A1 : Option Addr} {c1 : Nat} {f0 : List Int} {f1 : List (S75)} (h : W.heap[g]? = some (.cells #[.slice A0 f0.length c0, .slice A1 f1.length c1] 35 (0, 0))) : W.cell? ⟨g, 1, none⟩ = some (.slice A1 f1.length c1) := (blk_cell h 1).trans rfl
theorem IsS35.new (w0 W : World) (A0 : Option Addr) (c0 : Nat) (A1 : Option Addr) (c1 : Nat) (f0 : List Int) (f1 : List (S75)) (hB : Below w0.heap.size w0 W) (hr0 : Kd.C (Kd.int .i64) w0 A0 f0.length f0) (hr1 : Kd.C k75 w0 A1 f1.length f1) : IsS35 w0 (W.alloc (.cells #[.slice A0 f0.length c0, .slice A1 f1.length c1] 35)) W.heap.size f0 f1 := ⟨A0, c0, A1, c1, by simpa using heap_alloc_new W _, hB.size, hr0, hr1⟩

/-! ### impl_Bus_at: function 98 -/
def impl_Bus_at.f (s0_0 : List Int) (s0_1 : List (S75)) (a1 : Int) (a2 : Int) : Option (Int) := if a1 = 1 then (if 0 ≤ a2 then (if a2 < (s0_0.length : Int) then (some (rd s0_0 a2)) else (none)) else (none)) else (if 0 ≤ a2 then (if a2 < (s0_0.length : Int) then (if 0 ≤ (wrap64 (a2 + 1)) then (if (wrap64 (a2 + 1)) < (s0_0.length : Int) then (some (Go.bits .or .i64 (wrap64 ((rd s0_0 a2) * 256)) (rd s0_0 (wrap64 (a2 + 1))))) else (none)) else (none)) else (none)) else (none))
set_option maxHeartbeats 8000000 in
set_option maxRecDepth 100000 in
theorem impl_Bus_at.calls (g : Nat) (s0_0 : List Int) (s0_1 : List (S75)) (a1 : Int) (a2 : Int) (r : Int) (w0 w : World) (hI : IsS35 w0 w g s0_0 s0_1) (hB : Below w0.heap.size w0 w) (h : impl_Bus_at.f s0_0 s0_1 a1 a2 = some r) :
  Calls Try.prog 98 #[.pointer (some ⟨g, 0, none⟩), .int .i64 a1, .int .i64 a2] w fun e w' => e = .returned (.int .i64 r) ∧ IsS35 w0 w' g s0_0 s0_1 ∧ Below w0.heap.size w0 w' ∧ KeepBut w w' g none := by
 have HI0 := Aside0.mk hI; have HK := Aside0.mk (KeepBut.refl w g none); have HL := Aside0.mk hB.size; clear hI; have HW0 := Aside0.mk hB.size; have HB := Aside0.mk hB; clear hB; have H : (if a1 = 1 then (if 0 ≤ a2 then (if a2 < (s0_0.length : Int) then (some (rd s0_0 a2)) else (none)) else (none)) else (if 0 ≤ a2 then (if a2 < (s0_0.length : Int) then (if 0 ≤ (wrap64 (a2 + 1)) then (if (wrap64 (a2 + 1)) < (s0_0.length : Int) then (some (Go.bits .or .i64 (wrap64 ((rd s0_0 a2) * 256)) (rd s0_0 (wrap64 (a2 + 1))))) else (none)) else (none)) else (none)) else (none))) = some r := h; clear h; by_cases c4 : a1 = 1
 ·
  rw [if_pos c4] at H; obtain ⟨c4b0, c4b1⟩ := eT c4; clear c4; by_cases c5 : 0 ≤ a2
  ·
   rw [if_pos c5] at H; have c5b0 : decide (0 ≤ a2) = true := decide_eq_true c5; clear c5; by_cases c6 : a2 < (s0_0.length : Int)
   ·
    rw [if_pos c6] at H; have c6b0 : decide (a2 < (s0_0.length : Int)) = true := decide_eq_true c6; clear c6; obtain rfl := Option.some.inj H; obtain ⟨ASz7_0, cSz7_0, ASz7_1, cSz7_1, HGz7, hgz7, HSz7_0, HSz7_1⟩ := HI0.out; have hcz7_0 := cellS35_0 HGz7; have hcz7_1 := cellS35_1 HGz7; clear HGz7 hgz7; have p101 : 0 ≤ (a2 : Int) := of_decide_eq_true (by first | (with_reducible assumption) | assumption); have q101 : a2 < (s0_0.length : Int) := of_decide_eq_true (by first | (with_reducible assumption) | assumption); obtain ⟨ad101, e101, hx101_0⟩ := Kd.at_int HSz7_0 a2 p101 q101; cases e101
    replace hx101_0 := pw_cell_below HB.out hx101_0; replace p101 := eq_true p101; replace q101 := eq_true q101; go_enter Try.func98, Try.ntmps98; go_wp2; repeat (go_quiet (fail); try go_wp2)
    go_ret; exact ⟨oE, by repeat (first | (with_reducible first | exact HI0.out | apply IsS35.alloc | apply IsS35.drewN | apply IsS35.drew) | exact HI0.out), by repeat (first | (with_reducible first | exact HB.out | apply below_alloc | apply pw_below_drewN | apply below_drew1 | refine below_set ?_ (IsS35.ge HI0.out)) | exact HB.out), by repeat (first | (with_reducible first | exact HK.out | apply KeepBut.set_ | apply keep_drewN | apply keep_drew | apply keep_alloc) | exact HK.out)⟩
   · rw [if_neg c6] at H; exact absurd H (by simp)
  · rw [if_neg c5] at H; exact absurd H (by simp)
 ·
  rw [if_neg c4] at H; obtain ⟨c4b0, c4b1⟩ := eF c4; by_cases c8 : 0 ≤ a2
  ·
   rw [if_pos c8] at H; have c8b0 : decide (0 ≤ a2) = true := decide_eq_true c8; clear c8; by_cases c9 : a2 < (s0_0.length : Int)
   ·
    rw [if_pos c9] at H; have c9b0 : decide (a2 < (s0_0.length : Int)) = true := decide_eq_true c9; clear c9; obtain ⟨ji10, hji10⟩ : ∃ j_ : Int, (wrap64 (a2 + 1)) = j_ := ⟨_, rfl⟩; replace H : (if 0 ≤ (ji10) then (if (ji10) < (s0_0.length : Int) then (some (Go.bits .or .i64 (wrap64 ((rd s0_0 a2) * 256)) (rd s0_0 (ji10)))) else (none)) else (none)) = some r := by first | (rw [hji10] at H; exact H) | (simp only [hji10] at H ⊢; exact H)
    have hji10w : (IntKind.i64.wrap (a2 + 1)) = ji10 := (i64_w _).trans hji10; by_cases c11 : 0 ≤ (ji10)
    ·
     rw [if_pos c11] at H; have c11b0 : decide (0 ≤ (ji10)) = true := decide_eq_true c11; clear c11; by_cases c12 : (ji10) < (s0_0.length : Int)
     ·
      rw [if_pos c12] at H; have c12b0 : decide ((ji10) < (s0_0.length : Int)) = true := decide_eq_true c12; clear c12; obtain rfl := Option.some.inj H; obtain ⟨ASz13_0, cSz13_0, ASz13_1, cSz13_1, HGz13, hgz13, HSz13_0, HSz13_1⟩ := HI0.out; have hcz13_0 := cellS35_0 HGz13; have hcz13_1 := cellS35_1 HGz13; clear HGz13 hgz13; have p102 : 0 ≤ (a2 : Int) := of_decide_eq_true (by first | (with_reducible assumption) | assumption); have q102 : a2 < (s0_0.length : Int) := of_decide_eq_true (by first | (with_reducible assumption) | assumption); obtain ⟨ad102, e102, hx102_0⟩ := Kd.at_int HSz13_0 a2 p102 q102; cases e102
      replace hx102_0 := pw_cell_below HB.out hx102_0; replace p102 := eq_true p102; replace q102 := eq_true q102; have p103 : 0 ≤ ((ji10) : Int) := of_decide_eq_true (by first | (with_reducible assumption) | assumption); have q103 : (ji10) < (s0_0.length : Int) := of_decide_eq_true (by first | (with_reducible assumption) | assumption); obtain ⟨ad103, e103, hx103_0⟩ := Kd.at_int HSz13_0 (ji10) p103 q103; obtain rfl : ad102 = ad103 := (by injection e103); replace hx103_0 := pw_cell_below HB.out hx103_0; replace p103 := eq_true p103; replace q103 := eq_true q103; go_enter Try.func98, Try.ntmps98; go_wp2; repeat (go_quiet (fail); try go_wp2)
      go_ret; exact ⟨by first | rfl | (simp [errW_none, errW_some] <;> rfl) | (simp only [← hji10]; first | rfl | (simp [errW_none, errW_some] <;> rfl)) | (simp [*, errW_none, errW_some] <;> rfl), by repeat (first | (with_reducible first | exact HI0.out | apply IsS35.alloc | apply IsS35.drewN | apply IsS35.drew) | exact HI0.out), by repeat (first | (with_reducible first | exact HB.out | apply below_alloc | apply pw_below_drewN | apply below_drew1 | refine below_set ?_ (IsS35.ge HI0.out)) | exact HB.out), by repeat (first | (with_reducible first | exact HK.out | apply KeepBut.set_ | apply keep_drewN | apply keep_drew | apply keep_alloc) | exact HK.out)⟩
     · rw [if_neg c12] at H; exact absurd H (by simp)
    · rw [if_neg c11] at H; exact absurd H (by simp)
   · rw [if_neg c9] at H; exact absurd H (by simp)
  · rw [if_neg c8] at H; exact absurd H (by simp)

end Go.Proofs.Ytlebikjghlaooaa.P
