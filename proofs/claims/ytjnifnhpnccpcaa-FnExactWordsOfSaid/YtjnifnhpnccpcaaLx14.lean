-- Made by this session's program gprint.py out of the translation. Not trusted: Lean checks it.
import Derived.Test.YtjnifnhpnccpcaaLx0
import Derived.Test.YtjnifnhpnccpcaaLx1
import Derived.Test.YtjnifnhpnccpcaaLx13
namespace Go.Proofs.Ytjnifnhpnccpcaa.L
open Go.RowKit Go.Proofs.YtjnifnhpnccpcaaW.PrintWords Go.Proofs.YtjnifnhpnccpcaaW.PrintLast Go.Proofs.YtjnifnhpnccpcaaW.PrintMore
attribute [local go_sem] max2_int min2_int max_two min_two max_three min_three max_four min_four   -- for this text's walks alone
set_option linter.unusedVariables false
set_option linter.unusedSimpArgs false

attribute [local go_sem high] eqA75
/-! ### impl_isKind: function 109 -/
mutual
def impl_isKind.j0 : Nat → Int → Bool → Int → Bool → Int → Int → Int → Int → Int → Int → Int → Option (Bool)
 | 0, _, _, _, _, _, _, _, _, _, _, _ => none
 | k + 1, x3, x4, x12, x13, x102000, x102001, x102002, x102003, x102004, x102005, x102006 => if x13 = true then (if x102006 = 0 then (if x3 = 1 then (some x4) else (some true)) else (some false)) else (if x12 = 2 then (if x102006 = 0 then ((impl_isSettable.f x3).bind fun t102 => (some t102)) else (some false)) else (if x12 = 9 then (if x4 = true then (some (x102006 == 0)) else (some false)) else (if x12 = 10 then (if x4 = true then (if x102006 = 0 then ((impl_isPlain.f x3).bind fun t103 => (some t103)) else (some false)) else (some false)) else (if x12 = 11 then (if x102002 = 0 then (if x102006 ≤ 3 then ((impl_isSettable.f x3).bind fun t104 => (some t104)) else (some false)) else (some false)) else (if x12 = 12 then (some (x3 == 0)) else (if x12 = 13 then (if x4 = true then (if x102002 ≤ 1 then (some (x3 == 7)) else (some false)) else (some false)) else (if x12 = 14 then (if x4 = true then (if x102002 = 0 then (if x102006 ≤ 1 then ((impl_isPlain.f x3).bind fun t105 => (some t105)) else (some false)) else (some false)) else (some false)) else (if x12 = 15 then ((impl_isFlow.f k x102000 x102001 x102002 x102003 x102004 x102005 x102006).bind fun t106 => (some t106)) else (if x12 = 16 then (impl_isKind.j1 k x3 x4 x12 (x12 == 16) x102000 x102001 x102002 x102003 x102004 x102005 x102006) else (impl_isKind.j1 k x3 x4 x12 (x12 == 17) x102000 x102001 x102002 x102003 x102004 x102005 x102006))))))))))
def impl_isKind.j1 : Nat → Int → Bool → Int → Bool → Int → Int → Int → Int → Int → Int → Int → Option (Bool)
 | 0, _, _, _, _, _, _, _, _, _, _, _ => none
 | k + 1, x3, x4, x12, x111, x102000, x102001, x102002, x102003, x102004, x102005, x102006 => if x111 = true then (if x4 = true then (if x102006 = 0 then (some (x3 != 1)) else (some false)) else (some false)) else (if x12 = 18 then (if x4 = true then (some false) else (if x102006 ≤ 1 then (some (x3 == 0)) else (some false))) else (if x12 = 19 then (if x4 = true then (if x102006 = 0 then (if x102002 = 0 then ((impl_isNow.f x102003 x102004 x102005).bind fun t107 => (if t107 = true then (some true) else (if x102006 = 1 then (some (x102003 == 0 && (x102004 == 0 && (x102005 == 0)))) else (some false)))) else (if x102006 = 1 then (some (x102003 == 0 && (x102004 == 0 && (x102005 == 0)))) else (some false))) else (if x102006 = 1 then (some (x102003 == 0 && (x102004 == 0 && (x102005 == 0)))) else (some false))) else (some false)) else (some false)))
end
def impl_isKind.f (k : Nat) (a0_0 : Int) (a0_1 : Int) (a0_2 : Int) (a0_3 : Int) (a0_4 : Int) (a0_5 : Int) (a0_6 : Int) : Option (Bool) := if a0_0 = 1 then (impl_isKind.j0 k a0_3 (a0_1 == 2) a0_0 (a0_0 == 1) a0_0 a0_1 a0_2 a0_3 a0_4 a0_5 a0_6) else (if a0_0 = 3 then (impl_isKind.j0 k a0_3 (a0_1 == 2) a0_0 (a0_0 == 3) a0_0 a0_1 a0_2 a0_3 a0_4 a0_5 a0_6) else (if a0_0 = 4 then (impl_isKind.j0 k a0_3 (a0_1 == 2) a0_0 (a0_0 == 4) a0_0 a0_1 a0_2 a0_3 a0_4 a0_5 a0_6) else (if a0_0 = 5 then (impl_isKind.j0 k a0_3 (a0_1 == 2) a0_0 (a0_0 == 5) a0_0 a0_1 a0_2 a0_3 a0_4 a0_5 a0_6) else (if a0_0 = 6 then (impl_isKind.j0 k a0_3 (a0_1 == 2) a0_0 (a0_0 == 6) a0_0 a0_1 a0_2 a0_3 a0_4 a0_5 a0_6) else (if a0_0 = 7 then (impl_isKind.j0 k a0_3 (a0_1 == 2) a0_0 (a0_0 == 7) a0_0 a0_1 a0_2 a0_3 a0_4 a0_5 a0_6) else (impl_isKind.j0 k a0_3 (a0_1 == 2) a0_0 (a0_0 == 8) a0_0 a0_1 a0_2 a0_3 a0_4 a0_5 a0_6))))))
theorem impl_isKind.mono_l : ∀ k, (∀ y0 y1 y2 y3 y4 y5 y6 y7 y8 y9 y10, LeO (impl_isKind.j0 k y0 y1 y2 y3 y4 y5 y6 y7 y8 y9 y10) (impl_isKind.j0 (k + 1) y0 y1 y2 y3 y4 y5 y6 y7 y8 y9 y10)) ∧ (∀ y0 y1 y2 y3 y4 y5 y6 y7 y8 y9 y10, LeO (impl_isKind.j1 k y0 y1 y2 y3 y4 y5 y6 y7 y8 y9 y10) (impl_isKind.j1 (k + 1) y0 y1 y2 y3 y4 y5 y6 y7 y8 y9 y10))
 | 0 => ⟨fun _ _ _ _ _ _ _ _ _ _ _ r h => by simp [impl_isKind.j0] at h, fun _ _ _ _ _ _ _ _ _ _ _ r h => by simp [impl_isKind.j1] at h⟩
 | k + 1 => by
  obtain ⟨ih0, ih1⟩ := impl_isKind.mono_l k
  refine ⟨?_, ?_⟩
  ·
   intro y0 y1 y2 y3 y4 y5 y6 y7 y8 y9 y10
   unfold impl_isKind.j0
   repeat' first
   | (with_reducible exact ih0 _ _ _ _ _ _ _ _ _ _ _)
   | (with_reducible exact ih1 _ _ _ _ _ _ _ _ _ _ _)
   | (with_reducible exact impl_isFlow.mono _ _ _ _ _ _ _ _)
   | (with_reducible exact LeO.refl _)
   | (with_reducible exact LeO.none _)
   | (with_reducible refine LeO.ite ?_ ?_)
   | (with_reducible refine LeO.bind ?_ (fun _ => ?_))
   | exact ih0 _ _ _ _ _ _ _ _ _ _ _
   | exact ih1 _ _ _ _ _ _ _ _ _ _ _
   | exact impl_isFlow.mono _ _ _ _ _ _ _ _
   | exact LeO.none _
   | refine LeO.ite ?_ ?_
   | refine LeO.bind ?_ (fun _ => ?_)
  ·
   intro y0 y1 y2 y3 y4 y5 y6 y7 y8 y9 y10
   unfold impl_isKind.j1
   repeat' first
   | (with_reducible exact ih0 _ _ _ _ _ _ _ _ _ _ _)
   | (with_reducible exact ih1 _ _ _ _ _ _ _ _ _ _ _)
   | (with_reducible exact impl_isFlow.mono _ _ _ _ _ _ _ _)
   | (with_reducible exact LeO.refl _)
   | (with_reducible exact LeO.none _)
   | (with_reducible refine LeO.ite ?_ ?_)
   | (with_reducible refine LeO.bind ?_ (fun _ => ?_))
   | exact ih0 _ _ _ _ _ _ _ _ _ _ _
   | exact ih1 _ _ _ _ _ _ _ _ _ _ _
   | exact impl_isFlow.mono _ _ _ _ _ _ _ _
   | exact LeO.none _
   | refine LeO.ite ?_ ?_
   | refine LeO.bind ?_ (fun _ => ?_)
theorem impl_isKind.mono : ∀ a0 a1 a2 a3 a4 a5 a6 k, LeO (impl_isKind.f k a0 a1 a2 a3 a4 a5 a6) (impl_isKind.f (k + 1) a0 a1 a2 a3 a4 a5 a6) := by
 intro a0 a1 a2 a3 a4 a5 a6 k
 obtain ⟨ih0, ih1⟩ := impl_isKind.mono_l k
 unfold impl_isKind.f
 repeat' first
   | (with_reducible exact ih0 _ _ _ _ _ _ _ _ _ _ _)
   | (with_reducible exact ih1 _ _ _ _ _ _ _ _ _ _ _)
   | (with_reducible exact impl_isFlow.mono _ _ _ _ _ _ _ _)
   | (with_reducible exact LeO.refl _)
   | (with_reducible exact LeO.none _)
   | (with_reducible refine LeO.ite ?_ ?_)
   | (with_reducible refine LeO.bind ?_ (fun _ => ?_))
   | exact ih0 _ _ _ _ _ _ _ _ _ _ _
   | exact ih1 _ _ _ _ _ _ _ _ _ _ _
   | exact impl_isFlow.mono _ _ _ _ _ _ _ _
   | exact LeO.none _
   | refine LeO.ite ?_ ?_
   | refine LeO.bind ?_ (fun _ => ?_)
set_option maxHeartbeats 8000000 in
set_option maxRecDepth 100000 in
theorem impl_isKind.calls (k : Nat) (a0_0 : Int) (a0_1 : Int) (a0_2 : Int) (a0_3 : Int) (a0_4 : Int) (a0_5 : Int) (a0_6 : Int) (r : Bool) (w : World) (h : impl_isKind.f k a0_0 a0_1 a0_2 a0_3 a0_4 a0_5 a0_6 = some r) :
  Calls Try.prog 109 #[.agg #[.int .i64 a0_0, .int .i64 a0_1, .int .i64 a0_2, .int .i64 a0_3, .int .i64 a0_4, .int .i64 a0_5, .int .i64 a0_6]] w fun e w' => e = .returned (.bool r) ∧ Below w.heap.size w w' := by
 have hu77 := Try.underlying77; have hu75 := Try.underlying75; have HB := Aside0.mk (Below.refl w.heap.size w); have H : (if a0_0 = 1 then (impl_isKind.j0 k a0_3 (a0_1 == 2) a0_0 (a0_0 == 1) a0_0 a0_1 a0_2 a0_3 a0_4 a0_5 a0_6) else (if a0_0 = 3 then (impl_isKind.j0 k a0_3 (a0_1 == 2) a0_0 (a0_0 == 3) a0_0 a0_1 a0_2 a0_3 a0_4 a0_5 a0_6) else (if a0_0 = 4 then (impl_isKind.j0 k a0_3 (a0_1 == 2) a0_0 (a0_0 == 4) a0_0 a0_1 a0_2 a0_3 a0_4 a0_5 a0_6) else (if a0_0 = 5 then (impl_isKind.j0 k a0_3 (a0_1 == 2) a0_0 (a0_0 == 5) a0_0 a0_1 a0_2 a0_3 a0_4 a0_5 a0_6) else (if a0_0 = 6 then (impl_isKind.j0 k a0_3 (a0_1 == 2) a0_0 (a0_0 == 6) a0_0 a0_1 a0_2 a0_3 a0_4 a0_5 a0_6) else (if a0_0 = 7 then (impl_isKind.j0 k a0_3 (a0_1 == 2) a0_0 (a0_0 == 7) a0_0 a0_1 a0_2 a0_3 a0_4 a0_5 a0_6) else (impl_isKind.j0 k a0_3 (a0_1 == 2) a0_0 (a0_0 == 8) a0_0 a0_1 a0_2 a0_3 a0_4 a0_5 a0_6))))))) = some r := h; clear h; have HC2 := Aside0.mk H; clear H; go_enter Try.func109, Try.ntmps109; go_upto_if 13 with (first | ((with_reducible refine gate_dst (N := 1) rfl ?_); refine boxE (w := w) oL (cs := #[.int .i64 a0_0, .int .i64 a0_1, .int .i64 a0_2, .int .i64 a0_3, .int .i64 a0_4, .int .i64 a0_5, .int .i64 a0_6]) (t := 77) ?_; clear HB; intro gb101 w3 HB BK101 GW101; have GE101 := GW101; obtain ⟨hcz4_0, hcz4_1, hcz4_2, hcz4_3, hcz4_4, hcz4_5, hcz4_6⟩ := cz7 BK101.out; obtain ⟨hfz4_0, hfz4_1, hfz4_2, hfz4_3, hfz4_4, hfz4_5, hfz4_6⟩ := fz7 BK101.out))
 (try simp only [Act.put, List.setIfInBounds_toArray, List.set_cons_zero, List.set_cons_succ]); go_cut [13] (fun v13 wc => ∃ (kq : Nat) (x13_1 : Bool), v13 = .bool x13_1 ∧ Aside0 (impl_isKind.j0 kq a0_3 (a0_1 == 2) a0_0 x13_1 a0_0 a0_1 a0_2 a0_3 a0_4 a0_5 a0_6 = some r) ∧ Aside0 (kq ≤ k) ∧ Aside0 (wc.heap[gb101]? = some (.cells #[.int .i64 a0_0, .int .i64 a0_1, .int .i64 a0_2, .int .i64 a0_3, .int .i64 a0_4, .int .i64 a0_5, .int .i64 a0_6] 77 (0, 0))) ∧ Aside0 (Below w.heap.size w wc))
 case first =>
  have H := HC2.out; clear HC2; by_cases c5 : a0_0 = 1
  · rw [if_pos c5] at H; obtain ⟨c5b0, c5b1⟩ := eT c5; clear c5; (first | rw [c5b0] | (simp only [i64_w, i32_w]; rw [c5b0]) | skip); have H' := Aside0.mk H; clear H; go_wp2; go_meet; case rel => exact ⟨_, ((a0_0 == 1)), (by first | rfl | (simp; done) | (simp [*]; done)), H', ⟨by first | omega | exact Nat.le_refl _⟩, ⟨by (with_reducible repeat (first | refine blk_drewN ?_ _ | refine blk_drew ?_ | refine blk_alloc ?_ _)); exact BK101.out⟩, ⟨by repeat (first | (with_reducible first | exact HB.out | apply below_alloc | apply pw_below_drewN | apply below_drew1 | refine below_set ?_ GE101.out) | exact HB.out)⟩⟩
  ·
   rw [if_neg c5] at H; obtain ⟨c5b0, c5b1⟩ := eF c5; (first | rw [c5b0] | (simp only [i64_w, i32_w]; rw [c5b0]) | skip); by_cases c6 : a0_0 = 3
   · rw [if_pos c6] at H; obtain ⟨c6b0, c6b1⟩ := eT c6; clear c6; have H' := Aside0.mk H; clear H; go_wp2; go_meet; case rel => exact ⟨_, ((a0_0 == 3)), (by first | rfl | (simp; done) | (simp [*]; done)), H', ⟨by first | omega | exact Nat.le_refl _⟩, ⟨by (with_reducible repeat (first | refine blk_drewN ?_ _ | refine blk_drew ?_ | refine blk_alloc ?_ _)); exact BK101.out⟩, ⟨by repeat (first | (with_reducible first | exact HB.out | apply below_alloc | apply pw_below_drewN | apply below_drew1 | refine below_set ?_ GE101.out) | exact HB.out)⟩⟩
   ·
    rw [if_neg c6] at H; obtain ⟨c6b0, c6b1⟩ := eF c6; by_cases c7 : a0_0 = 4
    · rw [if_pos c7] at H; obtain ⟨c7b0, c7b1⟩ := eT c7; clear c7; have H' := Aside0.mk H; clear H; go_wp2; go_meet; case rel => exact ⟨_, ((a0_0 == 4)), (by first | rfl | (simp; done) | (simp [*]; done)), H', ⟨by first | omega | exact Nat.le_refl _⟩, ⟨by (with_reducible repeat (first | refine blk_drewN ?_ _ | refine blk_drew ?_ | refine blk_alloc ?_ _)); exact BK101.out⟩, ⟨by repeat (first | (with_reducible first | exact HB.out | apply below_alloc | apply pw_below_drewN | apply below_drew1 | refine below_set ?_ GE101.out) | exact HB.out)⟩⟩
    ·
     rw [if_neg c7] at H; obtain ⟨c7b0, c7b1⟩ := eF c7; by_cases c8 : a0_0 = 5
     · rw [if_pos c8] at H; obtain ⟨c8b0, c8b1⟩ := eT c8; clear c8; have H' := Aside0.mk H; clear H; go_wp2; go_meet; case rel => exact ⟨_, ((a0_0 == 5)), (by first | rfl | (simp; done) | (simp [*]; done)), H', ⟨by first | omega | exact Nat.le_refl _⟩, ⟨by (with_reducible repeat (first | refine blk_drewN ?_ _ | refine blk_drew ?_ | refine blk_alloc ?_ _)); exact BK101.out⟩, ⟨by repeat (first | (with_reducible first | exact HB.out | apply below_alloc | apply pw_below_drewN | apply below_drew1 | refine below_set ?_ GE101.out) | exact HB.out)⟩⟩
     ·
      rw [if_neg c8] at H; obtain ⟨c8b0, c8b1⟩ := eF c8; by_cases c9 : a0_0 = 6
      · rw [if_pos c9] at H; obtain ⟨c9b0, c9b1⟩ := eT c9; clear c9; have H' := Aside0.mk H; clear H; go_wp2; go_meet; case rel => exact ⟨_, ((a0_0 == 6)), (by first | rfl | (simp; done) | (simp [*]; done)), H', ⟨by first | omega | exact Nat.le_refl _⟩, ⟨by (with_reducible repeat (first | refine blk_drewN ?_ _ | refine blk_drew ?_ | refine blk_alloc ?_ _)); exact BK101.out⟩, ⟨by repeat (first | (with_reducible first | exact HB.out | apply below_alloc | apply pw_below_drewN | apply below_drew1 | refine below_set ?_ GE101.out) | exact HB.out)⟩⟩
      ·
       rw [if_neg c9] at H; obtain ⟨c9b0, c9b1⟩ := eF c9; by_cases c10 : a0_0 = 7
       · rw [if_pos c10] at H; obtain ⟨c10b0, c10b1⟩ := eT c10; clear c10; have H' := Aside0.mk H; clear H; go_wp2; go_meet; case rel => exact ⟨_, ((a0_0 == 7)), (by first | rfl | (simp; done) | (simp [*]; done)), H', ⟨by first | omega | exact Nat.le_refl _⟩, ⟨by (with_reducible repeat (first | refine blk_drewN ?_ _ | refine blk_drew ?_ | refine blk_alloc ?_ _)); exact BK101.out⟩, ⟨by repeat (first | (with_reducible first | exact HB.out | apply below_alloc | apply pw_below_drewN | apply below_drew1 | refine below_set ?_ GE101.out) | exact HB.out)⟩⟩
       · rw [if_neg c10] at H; obtain ⟨c10b0, c10b1⟩ := eF c10; have H' := Aside0.mk H; clear H; go_wp2; go_meet; case rel => exact ⟨_, ((a0_0 == 8)), (by first | rfl | (simp; done) | (simp [*]; done)), H', ⟨by first | omega | exact Nat.le_refl _⟩, ⟨by (with_reducible repeat (first | refine blk_drewN ?_ _ | refine blk_drew ?_ | refine blk_alloc ?_ _)); exact BK101.out⟩, ⟨by repeat (first | (with_reducible first | exact HB.out | apply below_alloc | apply pw_below_drewN | apply below_drew1 | refine below_set ?_ GE101.out) | exact HB.out)⟩⟩
 case rest =>
  clear HC2; (try clear c1); (try clear p2); (try clear c5); (try clear c5b0); (try clear c5b1); (try clear c6); (try clear c6b0); (try clear c6b1); (try clear c7); (try clear c7b0); (try clear c7b1); (try clear c8); (try clear c8b0); (try clear c8b1); (try clear c9); (try clear c9b0); (try clear c9b1); (try clear c10); (try clear c10b0); (try clear c10b1); (try clear hcz4_0 hcz4_1 hcz4_2 hcz4_3 hcz4_4 hcz4_5 hcz4_6); (try clear hfz4_0 hfz4_1 hfz4_2 hfz4_3 hfz4_4 hfz4_5 hfz4_6); obtain ⟨kq, x13_1, rfl, HA, HJ1, BK101, HB⟩ := hcut; cases kq with
  | zero => exact absurd HA.out (by simp [impl_isKind.j0])
  | succ kj1 =>
   have H := HA.out; clear HA; simp only [impl_isKind.j0] at H; by_cases c11 : x13_1 = true
   ·
    subst c11; replace H := iT H; by_cases c12 : a0_6 = 0
    ·
     rw [if_pos c12] at H; obtain ⟨c12b0, c12b1⟩ := eT c12; clear c12; by_cases c13 : a0_3 = 1
     · rw [if_pos c13] at H; obtain ⟨c13b0, c13b1⟩ := eT c13; clear c13; obtain rfl := Option.some.inj H; obtain ⟨hcz14_0, hcz14_1, hcz14_2, hcz14_3, hcz14_4, hcz14_5, hcz14_6⟩ := cz7 BK101.out; obtain ⟨hfz14_0, hfz14_1, hfz14_2, hfz14_3, hfz14_4, hfz14_5, hfz14_6⟩ := fz7 BK101.out; go_wp2; go_ret; exact ⟨oE, oL⟩
     · rw [if_neg c13] at H; obtain ⟨c13b0, c13b1⟩ := eF c13; obtain rfl := Option.some.inj H; obtain ⟨hcz15_0, hcz15_1, hcz15_2, hcz15_3, hcz15_4, hcz15_5, hcz15_6⟩ := cz7 BK101.out; obtain ⟨hfz15_0, hfz15_1, hfz15_2, hfz15_3, hfz15_4, hfz15_5, hfz15_6⟩ := fz7 BK101.out; go_wp2; go_ret; exact ⟨oE, oL⟩
    · rw [if_neg c12] at H; obtain ⟨c12b0, c12b1⟩ := eF c12; obtain rfl := Option.some.inj H; obtain ⟨hcz16_0, hcz16_1, hcz16_2, hcz16_3, hcz16_4, hcz16_5, hcz16_6⟩ := cz7 BK101.out; obtain ⟨hfz16_0, hfz16_1, hfz16_2, hfz16_3, hfz16_4, hfz16_5, hfz16_6⟩ := fz7 BK101.out; go_wp2; go_ret; exact ⟨oE, oL⟩
   ·
    replace c11 := Bool.eq_false_iff.mpr c11; subst c11; replace H := iF H; by_cases c17 : a0_0 = 2
    ·
     rw [if_pos c17] at H; obtain ⟨c17b0, c17b1⟩ := eT c17; clear c17; by_cases c18 : a0_6 = 0
     ·
      rw [if_pos c18] at H; obtain ⟨c18b0, c18b1⟩ := eT c18; clear c18; obtain ⟨t102, A190, H⟩ := bE H; have A19 := Aside0.mk A190; clear A190; obtain rfl := Option.some.inj H; obtain ⟨hcz20_0, hcz20_1, hcz20_2, hcz20_3, hcz20_4, hcz20_5, hcz20_6⟩ := cz7 BK101.out; obtain ⟨hfz20_0, hfz20_1, hfz20_2, hfz20_3, hfz20_4, hfz20_5, hfz20_6⟩ := fz7 BK101.out; go_wp2_with (first | (go_at_call 128; (with_reducible refine (impl_isSettable.calls a0_3 t102 _ A19.out).mono ?_); rintro e w' ⟨rfl, ⟨nd, rfl⟩⟩))
      go_ret; exact ⟨oE, oL⟩
     · rw [if_neg c18] at H; obtain ⟨c18b0, c18b1⟩ := eF c18; obtain rfl := Option.some.inj H; obtain ⟨hcz21_0, hcz21_1, hcz21_2, hcz21_3, hcz21_4, hcz21_5, hcz21_6⟩ := cz7 BK101.out; obtain ⟨hfz21_0, hfz21_1, hfz21_2, hfz21_3, hfz21_4, hfz21_5, hfz21_6⟩ := fz7 BK101.out; go_wp2; go_ret; exact ⟨oE, oL⟩
    ·
     rw [if_neg c17] at H; obtain ⟨c17b0, c17b1⟩ := eF c17; by_cases c22 : a0_0 = 9
     ·
      rw [if_pos c22] at H; obtain ⟨c22b0, c22b1⟩ := eT c22; clear c22; by_cases c23 : (a0_1 == 2) = true
      · rw [if_pos c23] at H; have c23b0 : (a0_1 == 2) = true := c23; (try (have c23b1 : decide (a0_1 = 2) = true := by simpa using c23)); (try (have c23b2 : (a0_1 == 2) = true := by simpa using c23)); clear c23; obtain rfl := Option.some.inj H; obtain ⟨hcz24_0, hcz24_1, hcz24_2, hcz24_3, hcz24_4, hcz24_5, hcz24_6⟩ := cz7 BK101.out; obtain ⟨hfz24_0, hfz24_1, hfz24_2, hfz24_3, hfz24_4, hfz24_5, hfz24_6⟩ := fz7 BK101.out; go_wp2; go_ret; exact ⟨oE, oL⟩
      ·
       rw [if_neg c23] at H; have c23b0 : (a0_1 == 2) = false := by simpa using c23
       (try (have c23b1 : decide (a0_1 = 2) = false := by simpa using c23)); (try (have c23b2 : (a0_1 == 2) = false := by simpa using c23)); (try (have c23b3 : ¬ (a0_1 = 2) := by simpa using c23)); clear c23; obtain rfl := Option.some.inj H; go_wp2; go_ret; exact ⟨oE, oL⟩
     ·
      rw [if_neg c22] at H; obtain ⟨c22b0, c22b1⟩ := eF c22; by_cases c25 : a0_0 = 10
      ·
       rw [if_pos c25] at H; obtain ⟨c25b0, c25b1⟩ := eT c25; clear c25; by_cases c26 : (a0_1 == 2) = true
       ·
        rw [if_pos c26] at H; have c26b0 : (a0_1 == 2) = true := c26; (try (have c26b1 : decide (a0_1 = 2) = true := by simpa using c26)); (try (have c26b2 : (a0_1 == 2) = true := by simpa using c26)); clear c26; by_cases c27 : a0_6 = 0
        ·
         rw [if_pos c27] at H; obtain ⟨c27b0, c27b1⟩ := eT c27; clear c27; obtain ⟨t103, A280, H⟩ := bE H; have A28 := Aside0.mk A280; clear A280; obtain rfl := Option.some.inj H; obtain ⟨hcz29_0, hcz29_1, hcz29_2, hcz29_3, hcz29_4, hcz29_5, hcz29_6⟩ := cz7 BK101.out; obtain ⟨hfz29_0, hfz29_1, hfz29_2, hfz29_3, hfz29_4, hfz29_5, hfz29_6⟩ := fz7 BK101.out; go_wp2_with (first | (go_at_call 129; (with_reducible refine (impl_isPlain.calls a0_3 t103 _ A28.out).mono ?_); rintro e w' ⟨rfl, ⟨nd, rfl⟩⟩))
         go_ret; exact ⟨oE, oL⟩
        · rw [if_neg c27] at H; obtain ⟨c27b0, c27b1⟩ := eF c27; obtain rfl := Option.some.inj H; obtain ⟨hcz30_0, hcz30_1, hcz30_2, hcz30_3, hcz30_4, hcz30_5, hcz30_6⟩ := cz7 BK101.out; obtain ⟨hfz30_0, hfz30_1, hfz30_2, hfz30_3, hfz30_4, hfz30_5, hfz30_6⟩ := fz7 BK101.out; go_wp2; go_ret; exact ⟨oE, oL⟩
       ·
        rw [if_neg c26] at H; have c26b0 : (a0_1 == 2) = false := by simpa using c26
        (try (have c26b1 : decide (a0_1 = 2) = false := by simpa using c26)); (try (have c26b2 : (a0_1 == 2) = false := by simpa using c26)); (try (have c26b3 : ¬ (a0_1 = 2) := by simpa using c26)); clear c26; obtain rfl := Option.some.inj H; go_wp2; go_ret; exact ⟨oE, oL⟩
      ·
       rw [if_neg c25] at H; obtain ⟨c25b0, c25b1⟩ := eF c25; by_cases c31 : a0_0 = 11
       ·
        rw [if_pos c31] at H; obtain ⟨c31b0, c31b1⟩ := eT c31; clear c31; by_cases c32 : a0_2 = 0
        ·
         rw [if_pos c32] at H; obtain ⟨c32b0, c32b1⟩ := eT c32; clear c32; by_cases c33 : a0_6 ≤ 3
         ·
          rw [if_pos c33] at H; have c33b0 : decide (a0_6 ≤ 3) = true := decide_eq_true c33; clear c33; obtain ⟨t104, A340, H⟩ := bE H; have A34 := Aside0.mk A340; clear A340; obtain rfl := Option.some.inj H; obtain ⟨hcz35_0, hcz35_1, hcz35_2, hcz35_3, hcz35_4, hcz35_5, hcz35_6⟩ := cz7 BK101.out; obtain ⟨hfz35_0, hfz35_1, hfz35_2, hfz35_3, hfz35_4, hfz35_5, hfz35_6⟩ := fz7 BK101.out; go_wp2_with (first | (go_at_call 128; (with_reducible refine (impl_isSettable.calls a0_3 t104 _ A34.out).mono ?_); rintro e w' ⟨rfl, ⟨nd, rfl⟩⟩))
          go_ret; exact ⟨oE, oL⟩
         · rw [if_neg c33] at H; have c33b0 : decide (a0_6 ≤ 3) = false := decide_eq_false c33; clear c33; obtain rfl := Option.some.inj H; obtain ⟨hcz36_0, hcz36_1, hcz36_2, hcz36_3, hcz36_4, hcz36_5, hcz36_6⟩ := cz7 BK101.out; obtain ⟨hfz36_0, hfz36_1, hfz36_2, hfz36_3, hfz36_4, hfz36_5, hfz36_6⟩ := fz7 BK101.out; go_wp2; go_ret; exact ⟨oE, oL⟩
        · rw [if_neg c32] at H; obtain ⟨c32b0, c32b1⟩ := eF c32; obtain rfl := Option.some.inj H; obtain ⟨hcz37_0, hcz37_1, hcz37_2, hcz37_3, hcz37_4, hcz37_5, hcz37_6⟩ := cz7 BK101.out; obtain ⟨hfz37_0, hfz37_1, hfz37_2, hfz37_3, hfz37_4, hfz37_5, hfz37_6⟩ := fz7 BK101.out; go_wp2; go_ret; exact ⟨oE, oL⟩
       ·
        rw [if_neg c31] at H; obtain ⟨c31b0, c31b1⟩ := eF c31; by_cases c38 : a0_0 = 12
        · rw [if_pos c38] at H; obtain ⟨c38b0, c38b1⟩ := eT c38; clear c38; obtain rfl := Option.some.inj H; go_wp2; go_ret; exact ⟨oE, oL⟩
        ·
         rw [if_neg c38] at H; obtain ⟨c38b0, c38b1⟩ := eF c38; by_cases c39 : a0_0 = 13
         ·
          rw [if_pos c39] at H; obtain ⟨c39b0, c39b1⟩ := eT c39; clear c39; by_cases c40 : (a0_1 == 2) = true
          ·
           rw [if_pos c40] at H; have c40b0 : (a0_1 == 2) = true := c40; (try (have c40b1 : decide (a0_1 = 2) = true := by simpa using c40)); (try (have c40b2 : (a0_1 == 2) = true := by simpa using c40)); clear c40; by_cases c41 : a0_2 ≤ 1
           · rw [if_pos c41] at H; have c41b0 : decide (a0_2 ≤ 1) = true := decide_eq_true c41; clear c41; obtain rfl := Option.some.inj H; obtain ⟨hcz42_0, hcz42_1, hcz42_2, hcz42_3, hcz42_4, hcz42_5, hcz42_6⟩ := cz7 BK101.out; obtain ⟨hfz42_0, hfz42_1, hfz42_2, hfz42_3, hfz42_4, hfz42_5, hfz42_6⟩ := fz7 BK101.out; go_wp2; go_ret; exact ⟨oE, oL⟩
           · rw [if_neg c41] at H; have c41b0 : decide (a0_2 ≤ 1) = false := decide_eq_false c41; clear c41; obtain rfl := Option.some.inj H; obtain ⟨hcz43_0, hcz43_1, hcz43_2, hcz43_3, hcz43_4, hcz43_5, hcz43_6⟩ := cz7 BK101.out; obtain ⟨hfz43_0, hfz43_1, hfz43_2, hfz43_3, hfz43_4, hfz43_5, hfz43_6⟩ := fz7 BK101.out; go_wp2; go_ret; exact ⟨oE, oL⟩
          ·
           rw [if_neg c40] at H; have c40b0 : (a0_1 == 2) = false := by simpa using c40
           (try (have c40b1 : decide (a0_1 = 2) = false := by simpa using c40)); (try (have c40b2 : (a0_1 == 2) = false := by simpa using c40)); (try (have c40b3 : ¬ (a0_1 = 2) := by simpa using c40)); clear c40; obtain rfl := Option.some.inj H; go_wp2; go_ret; exact ⟨oE, oL⟩
         ·
          rw [if_neg c39] at H; obtain ⟨c39b0, c39b1⟩ := eF c39; by_cases c44 : a0_0 = 14
          ·
           rw [if_pos c44] at H; obtain ⟨c44b0, c44b1⟩ := eT c44; clear c44; by_cases c45 : (a0_1 == 2) = true
           ·
            rw [if_pos c45] at H; have c45b0 : (a0_1 == 2) = true := c45; (try (have c45b1 : decide (a0_1 = 2) = true := by simpa using c45)); (try (have c45b2 : (a0_1 == 2) = true := by simpa using c45)); clear c45; by_cases c46 : a0_2 = 0
            ·
             rw [if_pos c46] at H; obtain ⟨c46b0, c46b1⟩ := eT c46; clear c46; by_cases c47 : a0_6 ≤ 1
             ·
              rw [if_pos c47] at H; have c47b0 : decide (a0_6 ≤ 1) = true := decide_eq_true c47; clear c47; obtain ⟨t105, A480, H⟩ := bE H; have A48 := Aside0.mk A480; clear A480; obtain rfl := Option.some.inj H; obtain ⟨hcz49_0, hcz49_1, hcz49_2, hcz49_3, hcz49_4, hcz49_5, hcz49_6⟩ := cz7 BK101.out; obtain ⟨hfz49_0, hfz49_1, hfz49_2, hfz49_3, hfz49_4, hfz49_5, hfz49_6⟩ := fz7 BK101.out; go_wp2_with (first | (go_at_call 129; (with_reducible refine (impl_isPlain.calls a0_3 t105 _ A48.out).mono ?_); rintro e w' ⟨rfl, ⟨nd, rfl⟩⟩))
              go_ret; exact ⟨oE, oL⟩
             · rw [if_neg c47] at H; have c47b0 : decide (a0_6 ≤ 1) = false := decide_eq_false c47; clear c47; obtain rfl := Option.some.inj H; obtain ⟨hcz50_0, hcz50_1, hcz50_2, hcz50_3, hcz50_4, hcz50_5, hcz50_6⟩ := cz7 BK101.out; obtain ⟨hfz50_0, hfz50_1, hfz50_2, hfz50_3, hfz50_4, hfz50_5, hfz50_6⟩ := fz7 BK101.out; go_wp2; go_ret; exact ⟨oE, oL⟩
            · rw [if_neg c46] at H; obtain ⟨c46b0, c46b1⟩ := eF c46; obtain rfl := Option.some.inj H; obtain ⟨hcz51_0, hcz51_1, hcz51_2, hcz51_3, hcz51_4, hcz51_5, hcz51_6⟩ := cz7 BK101.out; obtain ⟨hfz51_0, hfz51_1, hfz51_2, hfz51_3, hfz51_4, hfz51_5, hfz51_6⟩ := fz7 BK101.out; go_wp2; go_ret; exact ⟨oE, oL⟩
           ·
            rw [if_neg c45] at H; have c45b0 : (a0_1 == 2) = false := by simpa using c45
            (try (have c45b1 : decide (a0_1 = 2) = false := by simpa using c45)); (try (have c45b2 : (a0_1 == 2) = false := by simpa using c45)); (try (have c45b3 : ¬ (a0_1 = 2) := by simpa using c45)); clear c45; obtain rfl := Option.some.inj H; go_wp2; go_ret; exact ⟨oE, oL⟩
          ·
           rw [if_neg c44] at H; obtain ⟨c44b0, c44b1⟩ := eF c44; by_cases c52 : a0_0 = 15
           ·
            rw [if_pos c52] at H; obtain ⟨c52b0, c52b1⟩ := eT c52; clear c52; obtain ⟨t106, A530, H⟩ := bE H; have A53 := Aside0.mk A530; clear A530; obtain rfl := Option.some.inj H; obtain ⟨hcz54_0, hcz54_1, hcz54_2, hcz54_3, hcz54_4, hcz54_5, hcz54_6⟩ := cz7 BK101.out; obtain ⟨hfz54_0, hfz54_1, hfz54_2, hfz54_3, hfz54_4, hfz54_5, hfz54_6⟩ := fz7 BK101.out; go_wp2_with (first | ((with_reducible refine gate_callee (f := 130) rfl ?_); refine goesL_ (some 110) rfl rfl Try.func130 (by kernel_rfl) rfl #[.agg #[.int .i64 a0_0, .int .i64 a0_1, .int .i64 a0_2, .int .i64 a0_3, .int .i64 a0_4, .int .i64 a0_5, .int .i64 a0_6]] rfl (by (try simp only [List.map_toArray, List.map_cons, List.map_nil]); first | done | rfl | (simp only [List.length_drop, List.length_take]; rfl)) ?_; (with_reducible refine (impl_isFlow.calls kj1 a0_0 a0_1 a0_2 a0_3 a0_4 a0_5 a0_6 t106 _ A53.out).mono ?_); rintro e w55 ⟨rfl, hb⟩; refine ⟨_, rfl, ?_⟩; have n0_ := Aside0.mk (blk_below (oB BK101.out) hb); have n1_ := Aside0.mk (below_step oL hb); clear BK101; clear HB; have BK101 := n0_; have HB := n1_; clear n0_ n1_; (try clear hb); (try clear hb2); (try clear hk); (try clear hi)))
            go_ret; exact ⟨oE, oL⟩
           ·
            rw [if_neg c52] at H; obtain ⟨c52b0, c52b1⟩ := eF c52; have HC56 := Aside0.mk H; clear H; go_upto_if 111 with (fail)
            go_cut [111] (fun v111 wc => ∃ (kq : Nat) (x111_55 : Bool), v111 = .bool x111_55 ∧ Aside0 (impl_isKind.j1 kq a0_3 (a0_1 == 2) a0_0 x111_55 a0_0 a0_1 a0_2 a0_3 a0_4 a0_5 a0_6 = some r) ∧ Aside0 (kq ≤ kj1) ∧ Aside0 (wc.heap[gb101]? = some (.cells #[.int .i64 a0_0, .int .i64 a0_1, .int .i64 a0_2, .int .i64 a0_3, .int .i64 a0_4, .int .i64 a0_5, .int .i64 a0_6] 77 (0, 0))) ∧ Aside0 (Below w.heap.size w wc))
            case first =>
             have H := HC56.out; clear HC56; by_cases c57 : a0_0 = 16
             · rw [if_pos c57] at H; obtain ⟨c57b0, c57b1⟩ := eT c57; clear c57; (first | rw [c57b0] | (simp only [i64_w, i32_w]; rw [c57b0]) | skip); have H' := Aside0.mk H; clear H; go_wp2; go_meet; case rel => exact ⟨_, ((a0_0 == 16)), (by first | rfl | (simp; done) | (simp [*]; done)), H', ⟨by have := HJ1.out; first | omega | exact Nat.le_refl _⟩, ⟨by (with_reducible repeat (first | refine blk_drewN ?_ _ | refine blk_drew ?_ | refine blk_alloc ?_ _)); exact BK101.out⟩, ⟨by repeat (first | (with_reducible first | exact HB.out | apply below_alloc | apply pw_below_drewN | apply below_drew1 | refine below_set ?_ GE101.out) | exact HB.out)⟩⟩
             · rw [if_neg c57] at H; obtain ⟨c57b0, c57b1⟩ := eF c57; (first | rw [c57b0] | (simp only [i64_w, i32_w]; rw [c57b0]) | skip); have H' := Aside0.mk H; clear H; go_wp2; go_meet; case rel => exact ⟨_, ((a0_0 == 17)), (by first | rfl | (simp; done) | (simp [*]; done)), H', ⟨by have := HJ1.out; first | omega | exact Nat.le_refl _⟩, ⟨by (with_reducible repeat (first | refine blk_drewN ?_ _ | refine blk_drew ?_ | refine blk_alloc ?_ _)); exact BK101.out⟩, ⟨by repeat (first | (with_reducible first | exact HB.out | apply below_alloc | apply pw_below_drewN | apply below_drew1 | refine below_set ?_ GE101.out) | exact HB.out)⟩⟩
            case rest =>
             clear HC56; (try clear c1); (try clear c2); (try clear p2); (try clear c3); (try clear c4); (try clear c5); (try clear c9); (try clear c9b0); (try clear c9b1); (try clear c10); (try clear c10b0); (try clear c10b1); (try clear c11); (try clear c12); (try clear c12b0); (try clear c12b1); (try clear c13); (try clear c13b0); (try clear c13b1); (try clear c17); (try clear c17b0); (try clear c17b1); (try clear c18); (try clear c18b0); (try clear c18b1); (try clear c22); (try clear c22b0); (try clear c22b1); (try clear c23); (try clear c23b0); (try clear c23b1); (try clear c23b2); (try clear c25); (try clear c25b0); (try clear c25b1); (try clear c26); (try clear c26b0); (try clear c26b1); (try clear c26b2); (try clear c27); (try clear c27b0); (try clear c27b1); (try clear c31); (try clear c31b0); (try clear c31b1); (try clear c32); (try clear c32b0); (try clear c32b1); (try clear c33); (try clear c33b0); (try clear c38); (try clear c38b0); (try clear c38b1); (try clear c39); (try clear c39b0); (try clear c39b1); (try clear c40); (try clear c40b0); (try clear c40b1); (try clear c40b2); (try clear c41); (try clear c41b0); (try clear c44); (try clear c44b0); (try clear c44b1); (try clear c45); (try clear c45b0); (try clear c45b1); (try clear c45b2); (try clear c46); (try clear c46b0); (try clear c46b1); (try clear c47); (try clear c47b0); (try clear c52); (try clear c52b0); (try clear c52b1); (try clear c57); (try clear c57b0); (try clear c57b1); (try clear hcz14_0 hcz14_1 hcz14_2 hcz14_3 hcz14_4 hcz14_5 hcz14_6); (try clear hcz15_0 hcz15_1 hcz15_2 hcz15_3 hcz15_4 hcz15_5 hcz15_6); (try clear hcz16_0 hcz16_1 hcz16_2 hcz16_3 hcz16_4 hcz16_5 hcz16_6); (try clear hcz20_0 hcz20_1 hcz20_2 hcz20_3 hcz20_4 hcz20_5 hcz20_6); (try clear hcz21_0 hcz21_1 hcz21_2 hcz21_3 hcz21_4 hcz21_5 hcz21_6); (try clear hcz24_0 hcz24_1 hcz24_2 hcz24_3 hcz24_4 hcz24_5 hcz24_6); (try clear hcz29_0 hcz29_1 hcz29_2 hcz29_3 hcz29_4 hcz29_5 hcz29_6); (try clear hcz30_0 hcz30_1 hcz30_2 hcz30_3 hcz30_4 hcz30_5 hcz30_6); (try clear hcz35_0 hcz35_1 hcz35_2 hcz35_3 hcz35_4 hcz35_5 hcz35_6); (try clear hcz36_0 hcz36_1 hcz36_2 hcz36_3 hcz36_4 hcz36_5 hcz36_6); (try clear hcz37_0 hcz37_1 hcz37_2 hcz37_3 hcz37_4 hcz37_5 hcz37_6); (try clear hcz42_0 hcz42_1 hcz42_2 hcz42_3 hcz42_4 hcz42_5 hcz42_6); (try clear hcz43_0 hcz43_1 hcz43_2 hcz43_3 hcz43_4 hcz43_5 hcz43_6); (try clear hcz49_0 hcz49_1 hcz49_2 hcz49_3 hcz49_4 hcz49_5 hcz49_6); (try clear hcz4_0 hcz4_1 hcz4_2 hcz4_3 hcz4_4 hcz4_5 hcz4_6); (try clear hcz50_0 hcz50_1 hcz50_2 hcz50_3 hcz50_4 hcz50_5 hcz50_6); (try clear hcz51_0 hcz51_1 hcz51_2 hcz51_3 hcz51_4 hcz51_5 hcz51_6); (try clear hcz54_0 hcz54_1 hcz54_2 hcz54_3 hcz54_4 hcz54_5 hcz54_6); (try clear hfz14_0 hfz14_1 hfz14_2 hfz14_3 hfz14_4 hfz14_5 hfz14_6); (try clear hfz15_0 hfz15_1 hfz15_2 hfz15_3 hfz15_4 hfz15_5 hfz15_6); (try clear hfz16_0 hfz16_1 hfz16_2 hfz16_3 hfz16_4 hfz16_5 hfz16_6); (try clear hfz20_0 hfz20_1 hfz20_2 hfz20_3 hfz20_4 hfz20_5 hfz20_6); (try clear hfz21_0 hfz21_1 hfz21_2 hfz21_3 hfz21_4 hfz21_5 hfz21_6); (try clear hfz24_0 hfz24_1 hfz24_2 hfz24_3 hfz24_4 hfz24_5 hfz24_6); (try clear hfz29_0 hfz29_1 hfz29_2 hfz29_3 hfz29_4 hfz29_5 hfz29_6); (try clear hfz30_0 hfz30_1 hfz30_2 hfz30_3 hfz30_4 hfz30_5 hfz30_6); (try clear hfz35_0 hfz35_1 hfz35_2 hfz35_3 hfz35_4 hfz35_5 hfz35_6); (try clear hfz36_0 hfz36_1 hfz36_2 hfz36_3 hfz36_4 hfz36_5 hfz36_6); (try clear hfz37_0 hfz37_1 hfz37_2 hfz37_3 hfz37_4 hfz37_5 hfz37_6); (try clear hfz42_0 hfz42_1 hfz42_2 hfz42_3 hfz42_4 hfz42_5 hfz42_6); (try clear hfz43_0 hfz43_1 hfz43_2 hfz43_3 hfz43_4 hfz43_5 hfz43_6); (try clear hfz49_0 hfz49_1 hfz49_2 hfz49_3 hfz49_4 hfz49_5 hfz49_6); (try clear hfz4_0 hfz4_1 hfz4_2 hfz4_3 hfz4_4 hfz4_5 hfz4_6); (try clear hfz50_0 hfz50_1 hfz50_2 hfz50_3 hfz50_4 hfz50_5 hfz50_6); (try clear hfz51_0 hfz51_1 hfz51_2 hfz51_3 hfz51_4 hfz51_5 hfz51_6); (try clear hfz54_0 hfz54_1 hfz54_2 hfz54_3 hfz54_4 hfz54_5 hfz54_6); obtain ⟨kq, x111_55, rfl, HA, HJ55, BK101, HB⟩ := hcut
             cases kq with
             | zero => exact absurd HA.out (by simp [impl_isKind.j1])
             | succ kj55 =>
              have H := HA.out; clear HA; simp only [impl_isKind.j1] at H; by_cases c58 : x111_55 = true
              ·
               subst c58; replace H := iT H; by_cases c59 : (a0_1 == 2) = true
               ·
                rw [if_pos c59] at H; have c59b0 : (a0_1 == 2) = true := c59; (try (have c59b1 : decide (a0_1 = 2) = true := by simpa using c59)); (try (have c59b2 : (a0_1 == 2) = true := by simpa using c59)); clear c59; by_cases c60 : a0_6 = 0
                · rw [if_pos c60] at H; obtain ⟨c60b0, c60b1⟩ := eT c60; clear c60; obtain rfl := Option.some.inj H; obtain ⟨hcz61_0, hcz61_1, hcz61_2, hcz61_3, hcz61_4, hcz61_5, hcz61_6⟩ := cz7 BK101.out; obtain ⟨hfz61_0, hfz61_1, hfz61_2, hfz61_3, hfz61_4, hfz61_5, hfz61_6⟩ := fz7 BK101.out; go_wp2; go_ret; exact ⟨oE, oL⟩
                · rw [if_neg c60] at H; obtain ⟨c60b0, c60b1⟩ := eF c60; obtain rfl := Option.some.inj H; obtain ⟨hcz62_0, hcz62_1, hcz62_2, hcz62_3, hcz62_4, hcz62_5, hcz62_6⟩ := cz7 BK101.out; obtain ⟨hfz62_0, hfz62_1, hfz62_2, hfz62_3, hfz62_4, hfz62_5, hfz62_6⟩ := fz7 BK101.out; go_wp2; go_ret; exact ⟨oE, oL⟩
               ·
                rw [if_neg c59] at H; have c59b0 : (a0_1 == 2) = false := by simpa using c59
                (try (have c59b1 : decide (a0_1 = 2) = false := by simpa using c59)); (try (have c59b2 : (a0_1 == 2) = false := by simpa using c59)); (try (have c59b3 : ¬ (a0_1 = 2) := by simpa using c59)); clear c59; obtain rfl := Option.some.inj H; go_wp2; go_ret; exact ⟨oE, oL⟩
              ·
               replace c58 := Bool.eq_false_iff.mpr c58; subst c58; replace H := iF H; by_cases c63 : a0_0 = 18
               ·
                rw [if_pos c63] at H; obtain ⟨c63b0, c63b1⟩ := eT c63; clear c63; by_cases c64 : (a0_1 == 2) = true
                · rw [if_pos c64] at H; have c64b0 : (a0_1 == 2) = true := c64; (try (have c64b1 : decide (a0_1 = 2) = true := by simpa using c64)); (try (have c64b2 : (a0_1 == 2) = true := by simpa using c64)); clear c64; obtain rfl := Option.some.inj H; go_wp2; go_ret; exact ⟨oE, oL⟩
                ·
                 rw [if_neg c64] at H; have c64b0 : (a0_1 == 2) = false := by simpa using c64
                 (try (have c64b1 : decide (a0_1 = 2) = false := by simpa using c64)); (try (have c64b2 : (a0_1 == 2) = false := by simpa using c64)); (try (have c64b3 : ¬ (a0_1 = 2) := by simpa using c64)); clear c64; by_cases c65 : a0_6 ≤ 1
                 · rw [if_pos c65] at H; have c65b0 : decide (a0_6 ≤ 1) = true := decide_eq_true c65; clear c65; obtain rfl := Option.some.inj H; obtain ⟨hcz66_0, hcz66_1, hcz66_2, hcz66_3, hcz66_4, hcz66_5, hcz66_6⟩ := cz7 BK101.out; obtain ⟨hfz66_0, hfz66_1, hfz66_2, hfz66_3, hfz66_4, hfz66_5, hfz66_6⟩ := fz7 BK101.out; go_wp2; go_ret; exact ⟨oE, oL⟩
                 · rw [if_neg c65] at H; have c65b0 : decide (a0_6 ≤ 1) = false := decide_eq_false c65; clear c65; obtain rfl := Option.some.inj H; obtain ⟨hcz67_0, hcz67_1, hcz67_2, hcz67_3, hcz67_4, hcz67_5, hcz67_6⟩ := cz7 BK101.out; obtain ⟨hfz67_0, hfz67_1, hfz67_2, hfz67_3, hfz67_4, hfz67_5, hfz67_6⟩ := fz7 BK101.out; go_wp2; go_ret; exact ⟨oE, oL⟩
               ·
                rw [if_neg c63] at H; obtain ⟨c63b0, c63b1⟩ := eF c63; by_cases c68 : a0_0 = 19
                ·
                 rw [if_pos c68] at H; obtain ⟨c68b0, c68b1⟩ := eT c68; clear c68; by_cases c69 : (a0_1 == 2) = true
                 ·
                  rw [if_pos c69] at H; have c69b0 : (a0_1 == 2) = true := c69; (try (have c69b1 : decide (a0_1 = 2) = true := by simpa using c69)); (try (have c69b2 : (a0_1 == 2) = true := by simpa using c69)); clear c69; by_cases c70 : a0_6 = 0
                  ·
                   rw [if_pos c70] at H; obtain ⟨c70b0, c70b1⟩ := eT c70; clear c70; by_cases c71 : a0_2 = 0
                   ·
                    rw [if_pos c71] at H; obtain ⟨c71b0, c71b1⟩ := eT c71; clear c71; obtain ⟨t107, A720, H⟩ := bE H; have A72 := Aside0.mk A720; clear A720; by_cases c73 : t107 = true
                    ·
                     subst c73; replace H := iT H; obtain rfl := Option.some.inj H; obtain ⟨hcz74_0, hcz74_1, hcz74_2, hcz74_3, hcz74_4, hcz74_5, hcz74_6⟩ := cz7 BK101.out; obtain ⟨hfz74_0, hfz74_1, hfz74_2, hfz74_3, hfz74_4, hfz74_5, hfz74_6⟩ := fz7 BK101.out; go_wp2_with (first | (go_at_call 131; (with_reducible refine (impl_isNow.calls a0_3 a0_4 a0_5 true _ A72.out).mono ?_); rintro e w75 ⟨rfl, hb⟩; have n0_ := Aside0.mk (blk_below (oB BK101.out) hb); have n1_ := Aside0.mk (below_step oL hb); clear BK101; clear HB; have BK101 := n0_; have HB := n1_; clear n0_ n1_; (try clear hb); (try clear hb2); (try clear hk); (try clear hi)))
                     go_ret; exact ⟨oE, oL⟩
                    ·
                     replace c73 := Bool.eq_false_iff.mpr c73; subst c73; replace H := iF H; by_cases c76 : a0_6 = 1
                     ·
                      rw [if_pos c76] at H; obtain ⟨c76b0, c76b1⟩ := eT c76; clear c76; obtain rfl := Option.some.inj H; obtain ⟨hcz77_0, hcz77_1, hcz77_2, hcz77_3, hcz77_4, hcz77_5, hcz77_6⟩ := cz7 BK101.out; obtain ⟨hfz77_0, hfz77_1, hfz77_2, hfz77_3, hfz77_4, hfz77_5, hfz77_6⟩ := fz7 BK101.out; go_wp2_with (first | (go_at_call 131; (with_reducible refine (impl_isNow.calls a0_3 a0_4 a0_5 false _ A72.out).mono ?_); rintro e w78 ⟨rfl, hb⟩; have n0_ := Aside0.mk (blk_below (oB BK101.out) hb); have n1_ := Aside0.mk (below_step oL hb); clear BK101; clear HB; have BK101 := n0_; have HB := n1_; clear n0_ n1_; (try clear hb); (try clear hb2); (try clear hk); (try clear hi); obtain ⟨hcz79_0, hcz79_1, hcz79_2, hcz79_3, hcz79_4, hcz79_5, hcz79_6⟩ := cz7 BK101.out; obtain ⟨hfz79_0, hfz79_1, hfz79_2, hfz79_3, hfz79_4, hfz79_5, hfz79_6⟩ := fz7 BK101.out))
                      go_ret; exact ⟨oE, oL⟩
                     ·
                      rw [if_neg c76] at H; obtain ⟨c76b0, c76b1⟩ := eF c76; obtain rfl := Option.some.inj H; obtain ⟨hcz80_0, hcz80_1, hcz80_2, hcz80_3, hcz80_4, hcz80_5, hcz80_6⟩ := cz7 BK101.out; obtain ⟨hfz80_0, hfz80_1, hfz80_2, hfz80_3, hfz80_4, hfz80_5, hfz80_6⟩ := fz7 BK101.out; go_wp2_with (first | (go_at_call 131; (with_reducible refine (impl_isNow.calls a0_3 a0_4 a0_5 false _ A72.out).mono ?_); rintro e w81 ⟨rfl, hb⟩; have n0_ := Aside0.mk (blk_below (oB BK101.out) hb); have n1_ := Aside0.mk (below_step oL hb); clear BK101; clear HB; have BK101 := n0_; have HB := n1_; clear n0_ n1_; (try clear hb); (try clear hb2); (try clear hk); (try clear hi); obtain ⟨hcz82_0, hcz82_1, hcz82_2, hcz82_3, hcz82_4, hcz82_5, hcz82_6⟩ := cz7 BK101.out; obtain ⟨hfz82_0, hfz82_1, hfz82_2, hfz82_3, hfz82_4, hfz82_5, hfz82_6⟩ := fz7 BK101.out))
                      go_ret; exact ⟨oE, oL⟩
                   ·
                    rw [if_neg c71] at H; obtain ⟨c71b0, c71b1⟩ := eF c71; by_cases c83 : a0_6 = 1
                    · rw [if_pos c83] at H; obtain ⟨c83b0, c83b1⟩ := eT c83; clear c83; obtain rfl := Option.some.inj H; obtain ⟨hcz84_0, hcz84_1, hcz84_2, hcz84_3, hcz84_4, hcz84_5, hcz84_6⟩ := cz7 BK101.out; obtain ⟨hfz84_0, hfz84_1, hfz84_2, hfz84_3, hfz84_4, hfz84_5, hfz84_6⟩ := fz7 BK101.out; go_wp2; go_ret; exact ⟨oE, oL⟩
                    · rw [if_neg c83] at H; obtain ⟨c83b0, c83b1⟩ := eF c83; obtain rfl := Option.some.inj H; obtain ⟨hcz85_0, hcz85_1, hcz85_2, hcz85_3, hcz85_4, hcz85_5, hcz85_6⟩ := cz7 BK101.out; obtain ⟨hfz85_0, hfz85_1, hfz85_2, hfz85_3, hfz85_4, hfz85_5, hfz85_6⟩ := fz7 BK101.out; go_wp2; go_ret; exact ⟨oE, oL⟩
                  ·
                   rw [if_neg c70] at H; obtain ⟨c70b0, c70b1⟩ := eF c70; by_cases c86 : a0_6 = 1
                   · rw [if_pos c86] at H; obtain ⟨c86b0, c86b1⟩ := eT c86; clear c86; obtain rfl := Option.some.inj H; obtain ⟨hcz87_0, hcz87_1, hcz87_2, hcz87_3, hcz87_4, hcz87_5, hcz87_6⟩ := cz7 BK101.out; obtain ⟨hfz87_0, hfz87_1, hfz87_2, hfz87_3, hfz87_4, hfz87_5, hfz87_6⟩ := fz7 BK101.out; go_wp2; go_ret; exact ⟨oE, oL⟩
                   · rw [if_neg c86] at H; obtain ⟨c86b0, c86b1⟩ := eF c86; obtain rfl := Option.some.inj H; obtain ⟨hcz88_0, hcz88_1, hcz88_2, hcz88_3, hcz88_4, hcz88_5, hcz88_6⟩ := cz7 BK101.out; obtain ⟨hfz88_0, hfz88_1, hfz88_2, hfz88_3, hfz88_4, hfz88_5, hfz88_6⟩ := fz7 BK101.out; go_wp2; go_ret; exact ⟨oE, oL⟩
                 ·
                  rw [if_neg c69] at H; have c69b0 : (a0_1 == 2) = false := by simpa using c69
                  (try (have c69b1 : decide (a0_1 = 2) = false := by simpa using c69)); (try (have c69b2 : (a0_1 == 2) = false := by simpa using c69)); (try (have c69b3 : ¬ (a0_1 = 2) := by simpa using c69)); clear c69; obtain rfl := Option.some.inj H; go_wp2; go_ret; exact ⟨oE, oL⟩
                · rw [if_neg c68] at H; obtain ⟨c68b0, c68b1⟩ := eF c68; obtain rfl := Option.some.inj H; go_wp2; go_ret; exact ⟨oE, oL⟩

/-! ### impl_GoodIns: function 59 -/
def impl_GoodIns.f (k : Nat) (a0_0 : Int) (a0_1 : Int) (a0_2 : Int) (a0_3 : Int) (a0_4 : Int) (a0_5 : Int) (a0_6 : Int) : Option (Bool) := (impl_isSize.f a0_1).bind fun t102 => (if t102 = true then ((impl_within.f a0_2 0 3).bind fun t103 => (if t103 = true then ((impl_within.f a0_6 0 7).bind fun t104 => (if t104 = true then ((impl_GoodOperand.f a0_3 a0_4 a0_5).bind fun t105 => (if t105 = true then (if a0_3 = 7 then (if a0_1 = 1 then (if a0_5 > 255 then (some false) else ((impl_isKind.f k a0_0 a0_1 a0_2 a0_3 a0_4 a0_5 a0_6).bind fun t106 => (some t106))) else ((impl_isKind.f k a0_0 a0_1 a0_2 a0_3 a0_4 a0_5 a0_6).bind fun t107 => (some t107))) else ((impl_isKind.f k a0_0 a0_1 a0_2 a0_3 a0_4 a0_5 a0_6).bind fun t108 => (some t108))) else (some false))) else (some false))) else (some false))) else (some false))
theorem impl_GoodIns.mono : ∀ a0 a1 a2 a3 a4 a5 a6 k, LeO (impl_GoodIns.f k a0 a1 a2 a3 a4 a5 a6) (impl_GoodIns.f (k + 1) a0 a1 a2 a3 a4 a5 a6) := by
 intro a0 a1 a2 a3 a4 a5 a6 k
 unfold impl_GoodIns.f
 repeat' first
   | (with_reducible exact impl_isKind.mono _ _ _ _ _ _ _ _)
   | (with_reducible exact LeO.refl _)
   | (with_reducible exact LeO.none _)
   | (with_reducible refine LeO.ite ?_ ?_)
   | (with_reducible refine LeO.bind ?_ (fun _ => ?_))
   | exact impl_isKind.mono _ _ _ _ _ _ _ _
   | exact LeO.none _
   | refine LeO.ite ?_ ?_
   | refine LeO.bind ?_ (fun _ => ?_)
set_option maxHeartbeats 8000000 in
set_option maxRecDepth 100000 in
theorem impl_GoodIns.calls (k : Nat) (a0_0 : Int) (a0_1 : Int) (a0_2 : Int) (a0_3 : Int) (a0_4 : Int) (a0_5 : Int) (a0_6 : Int) (r : Bool) (w : World) (h : impl_GoodIns.f k a0_0 a0_1 a0_2 a0_3 a0_4 a0_5 a0_6 = some r) :
  Calls Try.prog 59 #[.agg #[.int .i64 a0_0, .int .i64 a0_1, .int .i64 a0_2, .int .i64 a0_3, .int .i64 a0_4, .int .i64 a0_5, .int .i64 a0_6]] w fun e w' => e = .returned (.bool r) ∧ Below w.heap.size w w' := by
 have hu77 := Try.underlying77; have hu75 := Try.underlying75; have HB := Aside0.mk (Below.refl w.heap.size w); have H : ((impl_isSize.f a0_1).bind fun t102 => (if t102 = true then ((impl_within.f a0_2 0 3).bind fun t103 => (if t103 = true then ((impl_within.f a0_6 0 7).bind fun t104 => (if t104 = true then ((impl_GoodOperand.f a0_3 a0_4 a0_5).bind fun t105 => (if t105 = true then (if a0_3 = 7 then (if a0_1 = 1 then (if a0_5 > 255 then (some false) else ((impl_isKind.f k a0_0 a0_1 a0_2 a0_3 a0_4 a0_5 a0_6).bind fun t106 => (some t106))) else ((impl_isKind.f k a0_0 a0_1 a0_2 a0_3 a0_4 a0_5 a0_6).bind fun t107 => (some t107))) else ((impl_isKind.f k a0_0 a0_1 a0_2 a0_3 a0_4 a0_5 a0_6).bind fun t108 => (some t108))) else (some false))) else (some false))) else (some false))) else (some false))) = some r := h; clear h; obtain ⟨t102, A20, H⟩ := bE H; have A2 := Aside0.mk A20; clear A20; by_cases c3 : t102 = true
 ·
  subst c3; replace H := iT H; obtain ⟨t103, A40, H⟩ := bE H; have A4 := Aside0.mk A40; clear A40; by_cases c5 : t103 = true
  ·
   subst c5; replace H := iT H; obtain ⟨t104, A60, H⟩ := bE H; have A6 := Aside0.mk A60; clear A60; by_cases c7 : t104 = true
   ·
    subst c7; replace H := iT H; obtain ⟨t105, A80, H⟩ := bE H; have A8 := Aside0.mk A80; clear A80; by_cases c9 : t105 = true
    ·
     subst c9; replace H := iT H; by_cases c10 : a0_3 = 7
     ·
      rw [if_pos c10] at H; obtain ⟨c10b0, c10b1⟩ := eT c10; clear c10; by_cases c11 : a0_1 = 1
      ·
       rw [if_pos c11] at H; obtain ⟨c11b0, c11b1⟩ := eT c11; clear c11; by_cases c12 : a0_5 > 255
       ·
        rw [if_pos c12] at H; have c12b0 : decide (255 < a0_5) = true := decide_eq_true c12; clear c12; obtain rfl := Option.some.inj H; go_enter Try.func59, Try.ntmps59; go_wp2_with (first | ((with_reducible refine gate_dst (N := 1) rfl ?_); refine boxE (w := w) oL (cs := #[.int .i64 a0_0, .int .i64 a0_1, .int .i64 a0_2, .int .i64 a0_3, .int .i64 a0_4, .int .i64 a0_5, .int .i64 a0_6]) (t := 77) ?_; clear HB; intro gb101 w13 HB BK101 GW101; have GE101 := GW101; obtain ⟨hcz14_0, hcz14_1, hcz14_2, hcz14_3, hcz14_4, hcz14_5, hcz14_6⟩ := cz7 BK101.out; obtain ⟨hfz14_0, hfz14_1, hfz14_2, hfz14_3, hfz14_4, hfz14_5, hfz14_6⟩ := fz7 BK101.out) | ((with_reducible refine gate_callee (f := 69) rfl ?_); refine goesQ (some 5) Try.func69 #[.int .i64 a0_1] (impl_isSize.calls a0_1 true _ A2.out) fun nd => ?_) | (go_at_call 58; (with_reducible refine (impl_within.calls a0_2 0 3 true _ A4.out).mono ?_); rintro e w' ⟨rfl, ⟨nd, rfl⟩⟩) | (go_at_call 58; (with_reducible refine (impl_within.calls a0_6 0 7 true _ A6.out).mono ?_); rintro e w' ⟨rfl, ⟨nd, rfl⟩⟩) | (go_at_call 108; (with_reducible refine (impl_GoodOperand.calls a0_3 a0_4 a0_5 true _ A8.out).mono ?_); rintro e w15 ⟨rfl, hb⟩; have n0_ := Aside0.mk (blk_below (oB BK101.out) hb); have n1_ := Aside0.mk (below_step oL hb); clear BK101; clear HB; have BK101 := n0_; have HB := n1_; clear n0_ n1_; (try clear hb); (try clear hb2); (try clear hk); (try clear hi); obtain ⟨hcz16_0, hcz16_1, hcz16_2, hcz16_3, hcz16_4, hcz16_5, hcz16_6⟩ := cz7 BK101.out; obtain ⟨hfz16_0, hfz16_1, hfz16_2, hfz16_3, hfz16_4, hfz16_5, hfz16_6⟩ := fz7 BK101.out))
        go_ret; exact ⟨oE, oL⟩
       ·
        rw [if_neg c12] at H; have c12b0 : decide (255 < a0_5) = false := decide_eq_false c12; clear c12; obtain ⟨t106, A170, H⟩ := bE H; have A17 := Aside0.mk A170; clear A170; obtain rfl := Option.some.inj H; go_enter Try.func59, Try.ntmps59; go_wp2_with (first | ((with_reducible refine gate_dst (N := 1) rfl ?_); refine boxE (w := w) oL (cs := #[.int .i64 a0_0, .int .i64 a0_1, .int .i64 a0_2, .int .i64 a0_3, .int .i64 a0_4, .int .i64 a0_5, .int .i64 a0_6]) (t := 77) ?_; clear HB; intro gb101 w18 HB BK101 GW101; have GE101 := GW101; obtain ⟨hcz19_0, hcz19_1, hcz19_2, hcz19_3, hcz19_4, hcz19_5, hcz19_6⟩ := cz7 BK101.out; obtain ⟨hfz19_0, hfz19_1, hfz19_2, hfz19_3, hfz19_4, hfz19_5, hfz19_6⟩ := fz7 BK101.out) | ((with_reducible refine gate_callee (f := 69) rfl ?_); refine goesQ (some 5) Try.func69 #[.int .i64 a0_1] (impl_isSize.calls a0_1 true _ A2.out) fun nd => ?_) | (go_at_call 58; (with_reducible refine (impl_within.calls a0_2 0 3 true _ A4.out).mono ?_); rintro e w' ⟨rfl, ⟨nd, rfl⟩⟩) | (go_at_call 58; (with_reducible refine (impl_within.calls a0_6 0 7 true _ A6.out).mono ?_); rintro e w' ⟨rfl, ⟨nd, rfl⟩⟩) | (go_at_call 108; (with_reducible refine (impl_GoodOperand.calls a0_3 a0_4 a0_5 true _ A8.out).mono ?_); rintro e w20 ⟨rfl, hb⟩; have n0_ := Aside0.mk (blk_below (oB BK101.out) hb); have n1_ := Aside0.mk (below_step oL hb); clear BK101; clear HB; have BK101 := n0_; have HB := n1_; clear n0_ n1_; (try clear hb); (try clear hb2); (try clear hk); (try clear hi); obtain ⟨hcz21_0, hcz21_1, hcz21_2, hcz21_3, hcz21_4, hcz21_5, hcz21_6⟩ := cz7 BK101.out; obtain ⟨hfz21_0, hfz21_1, hfz21_2, hfz21_3, hfz21_4, hfz21_5, hfz21_6⟩ := fz7 BK101.out) | (go_at_call 109; (with_reducible refine (impl_isKind.calls k a0_0 a0_1 a0_2 a0_3 a0_4 a0_5 a0_6 t106 _ A17.out).mono ?_); rintro e w22 ⟨rfl, hb⟩; have n0_ := Aside0.mk (blk_below (oB BK101.out) hb); have n1_ := Aside0.mk (below_step oL hb); clear BK101; clear HB; have BK101 := n0_; have HB := n1_; clear n0_ n1_; (try clear hb); (try clear hb2); (try clear hk); (try clear hi)))
        go_ret; exact ⟨oE, oL⟩
      ·
       rw [if_neg c11] at H; obtain ⟨c11b0, c11b1⟩ := eF c11; obtain ⟨t107, A230, H⟩ := bE H; have A23 := Aside0.mk A230; clear A230; obtain rfl := Option.some.inj H; go_enter Try.func59, Try.ntmps59; go_wp2_with (first | ((with_reducible refine gate_dst (N := 1) rfl ?_); refine boxE (w := w) oL (cs := #[.int .i64 a0_0, .int .i64 a0_1, .int .i64 a0_2, .int .i64 a0_3, .int .i64 a0_4, .int .i64 a0_5, .int .i64 a0_6]) (t := 77) ?_; clear HB; intro gb101 w24 HB BK101 GW101; have GE101 := GW101; obtain ⟨hcz25_0, hcz25_1, hcz25_2, hcz25_3, hcz25_4, hcz25_5, hcz25_6⟩ := cz7 BK101.out; obtain ⟨hfz25_0, hfz25_1, hfz25_2, hfz25_3, hfz25_4, hfz25_5, hfz25_6⟩ := fz7 BK101.out) | ((with_reducible refine gate_callee (f := 69) rfl ?_); refine goesQ (some 5) Try.func69 #[.int .i64 a0_1] (impl_isSize.calls a0_1 true _ A2.out) fun nd => ?_) | (go_at_call 58; (with_reducible refine (impl_within.calls a0_2 0 3 true _ A4.out).mono ?_); rintro e w' ⟨rfl, ⟨nd, rfl⟩⟩) | (go_at_call 58; (with_reducible refine (impl_within.calls a0_6 0 7 true _ A6.out).mono ?_); rintro e w' ⟨rfl, ⟨nd, rfl⟩⟩) | (go_at_call 108; (with_reducible refine (impl_GoodOperand.calls a0_3 a0_4 a0_5 true _ A8.out).mono ?_); rintro e w26 ⟨rfl, hb⟩; have n0_ := Aside0.mk (blk_below (oB BK101.out) hb); have n1_ := Aside0.mk (below_step oL hb); clear BK101; clear HB; have BK101 := n0_; have HB := n1_; clear n0_ n1_; (try clear hb); (try clear hb2); (try clear hk); (try clear hi); obtain ⟨hcz27_0, hcz27_1, hcz27_2, hcz27_3, hcz27_4, hcz27_5, hcz27_6⟩ := cz7 BK101.out; obtain ⟨hfz27_0, hfz27_1, hfz27_2, hfz27_3, hfz27_4, hfz27_5, hfz27_6⟩ := fz7 BK101.out) | (go_at_call 109; (with_reducible refine (impl_isKind.calls k a0_0 a0_1 a0_2 a0_3 a0_4 a0_5 a0_6 t107 _ A23.out).mono ?_); rintro e w28 ⟨rfl, hb⟩; have n0_ := Aside0.mk (blk_below (oB BK101.out) hb); have n1_ := Aside0.mk (below_step oL hb); clear BK101; clear HB; have BK101 := n0_; have HB := n1_; clear n0_ n1_; (try clear hb); (try clear hb2); (try clear hk); (try clear hi)))
       go_ret; exact ⟨oE, oL⟩
     ·
      rw [if_neg c10] at H; obtain ⟨c10b0, c10b1⟩ := eF c10; obtain ⟨t108, A290, H⟩ := bE H; have A29 := Aside0.mk A290; clear A290; obtain rfl := Option.some.inj H; go_enter Try.func59, Try.ntmps59; go_wp2_with (first | ((with_reducible refine gate_dst (N := 1) rfl ?_); refine boxE (w := w) oL (cs := #[.int .i64 a0_0, .int .i64 a0_1, .int .i64 a0_2, .int .i64 a0_3, .int .i64 a0_4, .int .i64 a0_5, .int .i64 a0_6]) (t := 77) ?_; clear HB; intro gb101 w30 HB BK101 GW101; have GE101 := GW101; obtain ⟨hcz31_0, hcz31_1, hcz31_2, hcz31_3, hcz31_4, hcz31_5, hcz31_6⟩ := cz7 BK101.out; obtain ⟨hfz31_0, hfz31_1, hfz31_2, hfz31_3, hfz31_4, hfz31_5, hfz31_6⟩ := fz7 BK101.out) | ((with_reducible refine gate_callee (f := 69) rfl ?_); refine goesQ (some 5) Try.func69 #[.int .i64 a0_1] (impl_isSize.calls a0_1 true _ A2.out) fun nd => ?_) | (go_at_call 58; (with_reducible refine (impl_within.calls a0_2 0 3 true _ A4.out).mono ?_); rintro e w' ⟨rfl, ⟨nd, rfl⟩⟩) | (go_at_call 58; (with_reducible refine (impl_within.calls a0_6 0 7 true _ A6.out).mono ?_); rintro e w' ⟨rfl, ⟨nd, rfl⟩⟩) | (go_at_call 108; (with_reducible refine (impl_GoodOperand.calls a0_3 a0_4 a0_5 true _ A8.out).mono ?_); rintro e w32 ⟨rfl, hb⟩; have n0_ := Aside0.mk (blk_below (oB BK101.out) hb); have n1_ := Aside0.mk (below_step oL hb); clear BK101; clear HB; have BK101 := n0_; have HB := n1_; clear n0_ n1_; (try clear hb); (try clear hb2); (try clear hk); (try clear hi); obtain ⟨hcz33_0, hcz33_1, hcz33_2, hcz33_3, hcz33_4, hcz33_5, hcz33_6⟩ := cz7 BK101.out; obtain ⟨hfz33_0, hfz33_1, hfz33_2, hfz33_3, hfz33_4, hfz33_5, hfz33_6⟩ := fz7 BK101.out) | (go_at_call 109; (with_reducible refine (impl_isKind.calls k a0_0 a0_1 a0_2 a0_3 a0_4 a0_5 a0_6 t108 _ A29.out).mono ?_); rintro e w34 ⟨rfl, hb⟩; have n0_ := Aside0.mk (blk_below (oB BK101.out) hb); have n1_ := Aside0.mk (below_step oL hb); clear BK101; clear HB; have BK101 := n0_; have HB := n1_; clear n0_ n1_; (try clear hb); (try clear hb2); (try clear hk); (try clear hi)))
      go_ret; exact ⟨oE, oL⟩
    ·
     replace c9 := Bool.eq_false_iff.mpr c9; subst c9; replace H := iF H; obtain rfl := Option.some.inj H; go_enter Try.func59, Try.ntmps59; go_wp2_with (first | ((with_reducible refine gate_dst (N := 1) rfl ?_); refine boxE (w := w) oL (cs := #[.int .i64 a0_0, .int .i64 a0_1, .int .i64 a0_2, .int .i64 a0_3, .int .i64 a0_4, .int .i64 a0_5, .int .i64 a0_6]) (t := 77) ?_; clear HB; intro gb101 w35 HB BK101 GW101; have GE101 := GW101; obtain ⟨hcz36_0, hcz36_1, hcz36_2, hcz36_3, hcz36_4, hcz36_5, hcz36_6⟩ := cz7 BK101.out; obtain ⟨hfz36_0, hfz36_1, hfz36_2, hfz36_3, hfz36_4, hfz36_5, hfz36_6⟩ := fz7 BK101.out) | ((with_reducible refine gate_callee (f := 69) rfl ?_); refine goesQ (some 5) Try.func69 #[.int .i64 a0_1] (impl_isSize.calls a0_1 true _ A2.out) fun nd => ?_) | (go_at_call 58; (with_reducible refine (impl_within.calls a0_2 0 3 true _ A4.out).mono ?_); rintro e w' ⟨rfl, ⟨nd, rfl⟩⟩) | (go_at_call 58; (with_reducible refine (impl_within.calls a0_6 0 7 true _ A6.out).mono ?_); rintro e w' ⟨rfl, ⟨nd, rfl⟩⟩) | (go_at_call 108; (with_reducible refine (impl_GoodOperand.calls a0_3 a0_4 a0_5 false _ A8.out).mono ?_); rintro e w37 ⟨rfl, hb⟩; have n0_ := Aside0.mk (blk_below (oB BK101.out) hb); have n1_ := Aside0.mk (below_step oL hb); clear BK101; clear HB; have BK101 := n0_; have HB := n1_; clear n0_ n1_; (try clear hb); (try clear hb2); (try clear hk); (try clear hi)))
     go_ret; exact ⟨oE, oL⟩
   ·
    replace c7 := Bool.eq_false_iff.mpr c7; subst c7; replace H := iF H; obtain rfl := Option.some.inj H; go_enter Try.func59, Try.ntmps59; go_wp2_with (first | ((with_reducible refine gate_dst (N := 1) rfl ?_); refine boxE (w := w) oL (cs := #[.int .i64 a0_0, .int .i64 a0_1, .int .i64 a0_2, .int .i64 a0_3, .int .i64 a0_4, .int .i64 a0_5, .int .i64 a0_6]) (t := 77) ?_; clear HB; intro gb101 w38 HB BK101 GW101; have GE101 := GW101; obtain ⟨hcz39_0, hcz39_1, hcz39_2, hcz39_3, hcz39_4, hcz39_5, hcz39_6⟩ := cz7 BK101.out; obtain ⟨hfz39_0, hfz39_1, hfz39_2, hfz39_3, hfz39_4, hfz39_5, hfz39_6⟩ := fz7 BK101.out) | ((with_reducible refine gate_callee (f := 69) rfl ?_); refine goesQ (some 5) Try.func69 #[.int .i64 a0_1] (impl_isSize.calls a0_1 true _ A2.out) fun nd => ?_) | (go_at_call 58; (with_reducible refine (impl_within.calls a0_2 0 3 true _ A4.out).mono ?_); rintro e w' ⟨rfl, ⟨nd, rfl⟩⟩) | (go_at_call 58; (with_reducible refine (impl_within.calls a0_6 0 7 false _ A6.out).mono ?_); rintro e w' ⟨rfl, ⟨nd, rfl⟩⟩))
    go_ret; exact ⟨oE, oL⟩
  ·
   replace c5 := Bool.eq_false_iff.mpr c5; subst c5; replace H := iF H; obtain rfl := Option.some.inj H; go_enter Try.func59, Try.ntmps59; go_wp2_with (first | ((with_reducible refine gate_dst (N := 1) rfl ?_); refine boxE (w := w) oL (cs := #[.int .i64 a0_0, .int .i64 a0_1, .int .i64 a0_2, .int .i64 a0_3, .int .i64 a0_4, .int .i64 a0_5, .int .i64 a0_6]) (t := 77) ?_; clear HB; intro gb101 w40 HB BK101 GW101; have GE101 := GW101; obtain ⟨hcz41_0, hcz41_1, hcz41_2, hcz41_3, hcz41_4, hcz41_5, hcz41_6⟩ := cz7 BK101.out; obtain ⟨hfz41_0, hfz41_1, hfz41_2, hfz41_3, hfz41_4, hfz41_5, hfz41_6⟩ := fz7 BK101.out) | ((with_reducible refine gate_callee (f := 69) rfl ?_); refine goesQ (some 5) Try.func69 #[.int .i64 a0_1] (impl_isSize.calls a0_1 true _ A2.out) fun nd => ?_) | (go_at_call 58; (with_reducible refine (impl_within.calls a0_2 0 3 false _ A4.out).mono ?_); rintro e w' ⟨rfl, ⟨nd, rfl⟩⟩))
   go_ret; exact ⟨oE, oL⟩
 ·
  replace c3 := Bool.eq_false_iff.mpr c3; subst c3; replace H := iF H; obtain rfl := Option.some.inj H; go_enter Try.func59, Try.ntmps59; go_wp2_with (first | ((with_reducible refine gate_dst (N := 1) rfl ?_); refine boxE (w := w) oL (cs := #[.int .i64 a0_0, .int .i64 a0_1, .int .i64 a0_2, .int .i64 a0_3, .int .i64 a0_4, .int .i64 a0_5, .int .i64 a0_6]) (t := 77) ?_; clear HB; intro gb101 w42 HB BK101 GW101; have GE101 := GW101; obtain ⟨hcz43_0, hcz43_1, hcz43_2, hcz43_3, hcz43_4, hcz43_5, hcz43_6⟩ := cz7 BK101.out; obtain ⟨hfz43_0, hfz43_1, hfz43_2, hfz43_3, hfz43_4, hfz43_5, hfz43_6⟩ := fz7 BK101.out) | ((with_reducible refine gate_callee (f := 69) rfl ?_); refine goesQ (some 5) Try.func69 #[.int .i64 a0_1] (impl_isSize.calls a0_1 false _ A2.out) fun nd => ?_))
  go_ret; exact ⟨oE, oL⟩

end Go.Proofs.Ytjnifnhpnccpcaa.L
