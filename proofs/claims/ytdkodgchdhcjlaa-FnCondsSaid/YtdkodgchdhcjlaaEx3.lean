-- Made by this session's program gprint.py out of the translation. Not trusted: Lean checks it.
import Derived.Test.YtdkodgchdhcjlaaEx0
import Derived.Test.YtdkodgchdhcjlaaEx2
namespace Go.Proofs.Ytdkodgchdhcjlaa.E
open Go.RowKit Go.Proofs.YtdkodgchdhcjlaaW.PrintWords Go.Proofs.YtdkodgchdhcjlaaW.PrintLast Go.Proofs.YtdkodgchdhcjlaaW.PrintMore
attribute [local go_sem] max2_int min2_int max_two min_two max_three min_three max_four min_four   -- for this text's walks alone
set_option linter.unusedVariables false
set_option linter.unusedSimpArgs false

/-! ### spec_DrawNeedsOf: function 36 -/
def spec_DrawNeedsOf.f (l0 : List Int) : Option (Int) := if 0 < (l0.length : Int) then (if 1 ≤ (l0.length : Int) then (some (wrap64 ((Int.tmod (wrap64 (rd l0 0)) 18) - 1))) else (some (wrap64 ((Int.tmod (wrap64 (Go.bits .and .u64 ((IntKind.u64.wrap ((IntKind.u64.wrap (IntKind.u64.wrap (wrap64 (rd l0 0)))) + 1442695040888963407)) / 1099511627776) 255)) 18) - 1)))) else (if 1 ≤ (l0.length : Int) then (some (((0 : Int) % 18) - 1)) else (some (wrap64 ((Int.tmod (wrap64 (Go.bits .and .u64 (1442695040888963407 / 1099511627776) 255)) 18) - 1))))
set_option maxHeartbeats 8000000 in
set_option maxRecDepth 100000 in
theorem spec_DrawNeedsOf.calls (A0 : Option Addr) (c0 : Nat) (l0 : List Int) (r : Int) (w : World) (hr0 : Kd.C (Kd.int .u8) w A0 l0.length l0) (hc0 : l0.length ≤ c0) (h : spec_DrawNeedsOf.f l0 = some r) :
  Calls Try.prog 36 #[.slice A0 l0.length c0] w fun e w' => e = .returned (.int .i64 r) ∧ Below w.heap.size w w' := by
 have hu79 := Try.underlying79; have HR0 := Aside0.mk hr0; have HC0 := Aside0.mk hc0; clear hr0 hc0; have HB := Aside0.mk (Below.refl w.heap.size w); have H : (if 0 < (l0.length : Int) then (if 1 ≤ (l0.length : Int) then (some (wrap64 ((Int.tmod (wrap64 (rd l0 0)) 18) - 1))) else (some (wrap64 ((Int.tmod (wrap64 (Go.bits .and .u64 ((IntKind.u64.wrap ((IntKind.u64.wrap (IntKind.u64.wrap (wrap64 (rd l0 0)))) + 1442695040888963407)) / 1099511627776) 255)) 18) - 1)))) else (if 1 ≤ (l0.length : Int) then (some (((0 : Int) % 18) - 1)) else (some (wrap64 ((Int.tmod (wrap64 (Go.bits .and .u64 (1442695040888963407 / 1099511627776) 255)) 18) - 1))))) = some r := h; clear h; by_cases c2 : 0 < (l0.length : Int)
 ·
  rw [if_pos c2] at H; have c2b0 : decide (0 < (l0.length : Int)) = true := decide_eq_true c2; have c2b1 : decide (0 < l0.length) = true := decide_eq_true (by omega); clear c2; by_cases c3 : 1 ≤ (l0.length : Int)
  ·
   rw [if_pos c3] at H; have c3b0 : decide (1 ≤ (l0.length : Int)) = true := decide_eq_true c3; have c3b1 : decide (1 ≤ l0.length) = true := decide_eq_true (by omega); clear c3; obtain rfl := Option.some.inj H; go_enter Try.func36, Try.ntmps36; go_wp2_with (first | ((with_reducible refine gate_dst (N := 6) rfl ?_); refine boxE (w := w) oL (cs := #[.slice A0 l0.length c0, .int .i64 0, .int .u64 0]) (t := 79) ?_; clear HB; intro gb101 w4 HB BK101 GW101; have GE101 := GW101; obtain ⟨hcz5_0, hcz5_1, hcz5_2⟩ := cz3 BK101.out; obtain ⟨hfz5_0, hfz5_1, hfz5_2⟩ := fz3 BK101.out; have p102 : 0 ≤ (0 : Int) := (by omega); have q102 : 0 < (l0.length : Int) := of_decide_eq_true (by first | (with_reducible assumption) | assumption); obtain ⟨ad102, e102, hx102_0⟩ := Kd.at_int HR0.out 0 p102 q102; cases e102; have qi102 : (0 < l0.length) = True := eq_true (by omega); (try rw [show ((0 : Int)).toNat = 0 from rfl] at hx102_0); (try rw [Addr.add_zero'] at hx102_0); replace hx102_0 := (HB.out.cell (World.block_lt_of_cell? w _ hx102_0)).trans hx102_0; replace p102 := eq_true p102; replace q102 := eq_true q102) | go_in)
   repeat (go_quiet (first | ((with_reducible refine gate_dst (N := 6) rfl ?_); refine boxE (w := w) oL (cs := #[.slice A0 l0.length c0, .int .i64 0, .int .u64 0]) (t := 79) ?_; clear HB; intro gb101 w4 HB BK101 GW101; have GE101 := GW101; obtain ⟨hcz5_0, hcz5_1, hcz5_2⟩ := cz3 BK101.out; obtain ⟨hfz5_0, hfz5_1, hfz5_2⟩ := fz3 BK101.out; have p102 : 0 ≤ (0 : Int) := (by omega); have q102 : 0 < (l0.length : Int) := of_decide_eq_true (by first | (with_reducible assumption) | assumption); obtain ⟨ad102, e102, hx102_0⟩ := Kd.at_int HR0.out 0 p102 q102; cases e102; have qi102 : (0 < l0.length) = True := eq_true (by omega); (try rw [show ((0 : Int)).toNat = 0 from rfl] at hx102_0); (try rw [Addr.add_zero'] at hx102_0); replace hx102_0 := (HB.out.cell (World.block_lt_of_cell? w _ hx102_0)).trans hx102_0; replace p102 := eq_true p102; replace q102 := eq_true q102) | go_in); try go_wp2_with (first | ((with_reducible refine gate_dst (N := 6) rfl ?_); refine boxE (w := w) oL (cs := #[.slice A0 l0.length c0, .int .i64 0, .int .u64 0]) (t := 79) ?_; clear HB; intro gb101 w4 HB BK101 GW101; have GE101 := GW101; obtain ⟨hcz5_0, hcz5_1, hcz5_2⟩ := cz3 BK101.out; obtain ⟨hfz5_0, hfz5_1, hfz5_2⟩ := fz3 BK101.out; have p102 : 0 ≤ (0 : Int) := (by omega); have q102 : 0 < (l0.length : Int) := of_decide_eq_true (by first | (with_reducible assumption) | assumption); obtain ⟨ad102, e102, hx102_0⟩ := Kd.at_int HR0.out 0 p102 q102; cases e102; have qi102 : (0 < l0.length) = True := eq_true (by omega); (try rw [show ((0 : Int)).toNat = 0 from rfl] at hx102_0); (try rw [Addr.add_zero'] at hx102_0); replace hx102_0 := (HB.out.cell (World.block_lt_of_cell? w _ hx102_0)).trans hx102_0; replace p102 := eq_true p102; replace q102 := eq_true q102) | go_in))
   go_ret; exact ⟨oE, oL⟩
  ·
   rw [if_neg c3] at H; have c3b0 : decide (1 ≤ (l0.length : Int)) = false := decide_eq_false c3; have c3b1 : decide (1 ≤ l0.length) = false := decide_eq_false (by omega); clear c3; obtain rfl := Option.some.inj H; go_enter Try.func36, Try.ntmps36; go_wp2_with (first | ((with_reducible refine gate_dst (N := 6) rfl ?_); refine boxE (w := w) oL (cs := #[.slice A0 l0.length c0, .int .i64 0, .int .u64 0]) (t := 79) ?_; clear HB; intro gb101 w6 HB BK101 GW101; have GE101 := GW101; obtain ⟨hcz7_0, hcz7_1, hcz7_2⟩ := cz3 BK101.out; obtain ⟨hfz7_0, hfz7_1, hfz7_2⟩ := fz3 BK101.out; have p102 : 0 ≤ (0 : Int) := (by omega); have q102 : 0 < (l0.length : Int) := of_decide_eq_true (by first | (with_reducible assumption) | assumption); obtain ⟨ad102, e102, hx102_0⟩ := Kd.at_int HR0.out 0 p102 q102; cases e102; have qi102 : (0 < l0.length) = True := eq_true (by omega); (try rw [show ((0 : Int)).toNat = 0 from rfl] at hx102_0); (try rw [Addr.add_zero'] at hx102_0); replace hx102_0 := (HB.out.cell (World.block_lt_of_cell? w _ hx102_0)).trans hx102_0; replace p102 := eq_true p102; replace q102 := eq_true q102) | go_in)
   repeat (go_quiet (first | ((with_reducible refine gate_dst (N := 6) rfl ?_); refine boxE (w := w) oL (cs := #[.slice A0 l0.length c0, .int .i64 0, .int .u64 0]) (t := 79) ?_; clear HB; intro gb101 w6 HB BK101 GW101; have GE101 := GW101; obtain ⟨hcz7_0, hcz7_1, hcz7_2⟩ := cz3 BK101.out; obtain ⟨hfz7_0, hfz7_1, hfz7_2⟩ := fz3 BK101.out; have p102 : 0 ≤ (0 : Int) := (by omega); have q102 : 0 < (l0.length : Int) := of_decide_eq_true (by first | (with_reducible assumption) | assumption); obtain ⟨ad102, e102, hx102_0⟩ := Kd.at_int HR0.out 0 p102 q102; cases e102; have qi102 : (0 < l0.length) = True := eq_true (by omega); (try rw [show ((0 : Int)).toNat = 0 from rfl] at hx102_0); (try rw [Addr.add_zero'] at hx102_0); replace hx102_0 := (HB.out.cell (World.block_lt_of_cell? w _ hx102_0)).trans hx102_0; replace p102 := eq_true p102; replace q102 := eq_true q102) | go_in); try go_wp2_with (first | ((with_reducible refine gate_dst (N := 6) rfl ?_); refine boxE (w := w) oL (cs := #[.slice A0 l0.length c0, .int .i64 0, .int .u64 0]) (t := 79) ?_; clear HB; intro gb101 w6 HB BK101 GW101; have GE101 := GW101; obtain ⟨hcz7_0, hcz7_1, hcz7_2⟩ := cz3 BK101.out; obtain ⟨hfz7_0, hfz7_1, hfz7_2⟩ := fz3 BK101.out; have p102 : 0 ≤ (0 : Int) := (by omega); have q102 : 0 < (l0.length : Int) := of_decide_eq_true (by first | (with_reducible assumption) | assumption); obtain ⟨ad102, e102, hx102_0⟩ := Kd.at_int HR0.out 0 p102 q102; cases e102; have qi102 : (0 < l0.length) = True := eq_true (by omega); (try rw [show ((0 : Int)).toNat = 0 from rfl] at hx102_0); (try rw [Addr.add_zero'] at hx102_0); replace hx102_0 := (HB.out.cell (World.block_lt_of_cell? w _ hx102_0)).trans hx102_0; replace p102 := eq_true p102; replace q102 := eq_true q102) | go_in))
   go_ret; exact ⟨oE, oL⟩
 ·
  rw [if_neg c2] at H; have c2b0 : decide (0 < (l0.length : Int)) = false := decide_eq_false c2; have c2b1 : decide (0 < l0.length) = false := decide_eq_false (by omega); clear c2; by_cases c8 : 1 ≤ (l0.length : Int)
  ·
   rw [if_pos c8] at H; have c8b0 : decide (1 ≤ (l0.length : Int)) = true := decide_eq_true c8; have c8b1 : decide (1 ≤ l0.length) = true := decide_eq_true (by omega); clear c8; obtain rfl := Option.some.inj H; go_enter Try.func36, Try.ntmps36; go_wp2_with (first | ((with_reducible refine gate_dst (N := 6) rfl ?_); refine boxE (w := w) oL (cs := #[.slice A0 l0.length c0, .int .i64 0, .int .u64 0]) (t := 79) ?_; clear HB; intro gb101 w9 HB BK101 GW101; have GE101 := GW101; obtain ⟨hcz10_0, hcz10_1, hcz10_2⟩ := cz3 BK101.out; obtain ⟨hfz10_0, hfz10_1, hfz10_2⟩ := fz3 BK101.out) | go_in)
   repeat (go_quiet (first | ((with_reducible refine gate_dst (N := 6) rfl ?_); refine boxE (w := w) oL (cs := #[.slice A0 l0.length c0, .int .i64 0, .int .u64 0]) (t := 79) ?_; clear HB; intro gb101 w9 HB BK101 GW101; have GE101 := GW101; obtain ⟨hcz10_0, hcz10_1, hcz10_2⟩ := cz3 BK101.out; obtain ⟨hfz10_0, hfz10_1, hfz10_2⟩ := fz3 BK101.out) | go_in); try go_wp2_with (first | ((with_reducible refine gate_dst (N := 6) rfl ?_); refine boxE (w := w) oL (cs := #[.slice A0 l0.length c0, .int .i64 0, .int .u64 0]) (t := 79) ?_; clear HB; intro gb101 w9 HB BK101 GW101; have GE101 := GW101; obtain ⟨hcz10_0, hcz10_1, hcz10_2⟩ := cz3 BK101.out; obtain ⟨hfz10_0, hfz10_1, hfz10_2⟩ := fz3 BK101.out) | go_in))
   go_ret; exact ⟨oE, oL⟩
  ·
   rw [if_neg c8] at H; have c8b0 : decide (1 ≤ (l0.length : Int)) = false := decide_eq_false c8; have c8b1 : decide (1 ≤ l0.length) = false := decide_eq_false (by omega); clear c8; obtain rfl := Option.some.inj H; go_enter Try.func36, Try.ntmps36; go_wp2_with (first | ((with_reducible refine gate_dst (N := 6) rfl ?_); refine boxE (w := w) oL (cs := #[.slice A0 l0.length c0, .int .i64 0, .int .u64 0]) (t := 79) ?_; clear HB; intro gb101 w11 HB BK101 GW101; have GE101 := GW101; obtain ⟨hcz12_0, hcz12_1, hcz12_2⟩ := cz3 BK101.out; obtain ⟨hfz12_0, hfz12_1, hfz12_2⟩ := fz3 BK101.out) | go_in)
   repeat (go_quiet (first | ((with_reducible refine gate_dst (N := 6) rfl ?_); refine boxE (w := w) oL (cs := #[.slice A0 l0.length c0, .int .i64 0, .int .u64 0]) (t := 79) ?_; clear HB; intro gb101 w11 HB BK101 GW101; have GE101 := GW101; obtain ⟨hcz12_0, hcz12_1, hcz12_2⟩ := cz3 BK101.out; obtain ⟨hfz12_0, hfz12_1, hfz12_2⟩ := fz3 BK101.out) | go_in); try go_wp2_with (first | ((with_reducible refine gate_dst (N := 6) rfl ?_); refine boxE (w := w) oL (cs := #[.slice A0 l0.length c0, .int .i64 0, .int .u64 0]) (t := 79) ?_; clear HB; intro gb101 w11 HB BK101 GW101; have GE101 := GW101; obtain ⟨hcz12_0, hcz12_1, hcz12_2⟩ := cz3 BK101.out; obtain ⟨hfz12_0, hfz12_1, hfz12_2⟩ := fz3 BK101.out) | go_in))
   go_ret; exact ⟨oE, oL⟩

/-! ### spec_l8Needs: function 69 -/
def spec_l8Needs.f (a0 : Int) : Option (Int) := if (Go.bits .andNot .i64 a0 1) = 2 then (some 5) else (if (Go.bits .andNot .i64 a0 1) = 4 then (some 1) else (if (Go.bits .andNot .i64 a0 1) = 6 then (some 4) else (if (Go.bits .andNot .i64 a0 1) = 8 then (some 2) else (if (Go.bits .andNot .i64 a0 1) = 10 then (some 8) else (if (Go.bits .andNot .i64 a0 1) = 12 then (some 10) else (if (Go.bits .andNot .i64 a0 1) = 14 then (some 14) else (some 0)))))))
set_option maxHeartbeats 8000000 in
set_option maxRecDepth 100000 in
theorem spec_l8Needs.calls (a0 : Int) (r : Int) (w : World) (h : spec_l8Needs.f a0 = some r) :
  Calls Try.prog 69 #[.int .i64 a0] w fun e w' => e = .returned (.int .i64 r) ∧ Drawn0 w w' := by
 have H : (if (Go.bits .andNot .i64 a0 1) = 2 then (some 5) else (if (Go.bits .andNot .i64 a0 1) = 4 then (some 1) else (if (Go.bits .andNot .i64 a0 1) = 6 then (some 4) else (if (Go.bits .andNot .i64 a0 1) = 8 then (some 2) else (if (Go.bits .andNot .i64 a0 1) = 10 then (some 8) else (if (Go.bits .andNot .i64 a0 1) = 12 then (some 10) else (if (Go.bits .andNot .i64 a0 1) = 14 then (some 14) else (some 0)))))))) = some r := h; clear h; by_cases c2 : (Go.bits .andNot .i64 a0 1) = 2
 · rw [if_pos c2] at H; obtain ⟨c2b0, c2b1⟩ := eT c2; clear c2; obtain rfl := Option.some.inj H; go_enter Try.func69, Try.ntmps69; go_wp2; go_ret; exact ⟨by first | rfl | (simp; done) | (simp [*]; done), by repeat (first | exact Drawn0.refl _ | apply Drawn0.step)⟩
 ·
  rw [if_neg c2] at H; obtain ⟨c2b0, c2b1⟩ := eF c2; by_cases c3 : (Go.bits .andNot .i64 a0 1) = 4
  · rw [if_pos c3] at H; obtain ⟨c3b0, c3b1⟩ := eT c3; clear c3; obtain rfl := Option.some.inj H; go_enter Try.func69, Try.ntmps69; go_wp2; go_ret; exact ⟨by first | rfl | (simp; done) | (simp [*]; done), by repeat (first | exact Drawn0.refl _ | apply Drawn0.step)⟩
  ·
   rw [if_neg c3] at H; obtain ⟨c3b0, c3b1⟩ := eF c3; by_cases c4 : (Go.bits .andNot .i64 a0 1) = 6
   · rw [if_pos c4] at H; obtain ⟨c4b0, c4b1⟩ := eT c4; clear c4; obtain rfl := Option.some.inj H; go_enter Try.func69, Try.ntmps69; go_wp2; go_ret; exact ⟨by first | rfl | (simp; done) | (simp [*]; done), by repeat (first | exact Drawn0.refl _ | apply Drawn0.step)⟩
   ·
    rw [if_neg c4] at H; obtain ⟨c4b0, c4b1⟩ := eF c4; by_cases c5 : (Go.bits .andNot .i64 a0 1) = 8
    · rw [if_pos c5] at H; obtain ⟨c5b0, c5b1⟩ := eT c5; clear c5; obtain rfl := Option.some.inj H; go_enter Try.func69, Try.ntmps69; go_wp2; go_ret; exact ⟨by first | rfl | (simp; done) | (simp [*]; done), by repeat (first | exact Drawn0.refl _ | apply Drawn0.step)⟩
    ·
     rw [if_neg c5] at H; obtain ⟨c5b0, c5b1⟩ := eF c5; by_cases c6 : (Go.bits .andNot .i64 a0 1) = 10
     · rw [if_pos c6] at H; obtain ⟨c6b0, c6b1⟩ := eT c6; clear c6; obtain rfl := Option.some.inj H; go_enter Try.func69, Try.ntmps69; go_wp2; go_ret; exact ⟨by first | rfl | (simp; done) | (simp [*]; done), by repeat (first | exact Drawn0.refl _ | apply Drawn0.step)⟩
     ·
      rw [if_neg c6] at H; obtain ⟨c6b0, c6b1⟩ := eF c6; by_cases c7 : (Go.bits .andNot .i64 a0 1) = 12
      · rw [if_pos c7] at H; obtain ⟨c7b0, c7b1⟩ := eT c7; clear c7; obtain rfl := Option.some.inj H; go_enter Try.func69, Try.ntmps69; go_wp2; go_ret; exact ⟨by first | rfl | (simp; done) | (simp [*]; done), by repeat (first | exact Drawn0.refl _ | apply Drawn0.step)⟩
      ·
       rw [if_neg c7] at H; obtain ⟨c7b0, c7b1⟩ := eF c7; by_cases c8 : (Go.bits .andNot .i64 a0 1) = 14
       · rw [if_pos c8] at H; obtain ⟨c8b0, c8b1⟩ := eT c8; clear c8; obtain rfl := Option.some.inj H; go_enter Try.func69, Try.ntmps69; go_wp2; go_ret; exact ⟨by first | rfl | (simp; done) | (simp [*]; done), by repeat (first | exact Drawn0.refl _ | apply Drawn0.step)⟩
       · rw [if_neg c8] at H; obtain ⟨c8b0, c8b1⟩ := eF c8; obtain rfl := Option.some.inj H; go_enter Try.func69, Try.ntmps69; go_wp2; go_ret; exact ⟨by first | rfl | (simp; done) | (simp [*]; done), by repeat (first | exact Drawn0.refl _ | apply Drawn0.step)⟩

/-! ### spec_NeedsOf: function 37 -/
def spec_NeedsOf.f (a0 : Int) : Option (Int × Bool) := (spec_l8Cond.f a0).bind fun t101 => (if t101 = true then ((spec_l8Needs.f a0).bind fun t102 => (some (t102, true))) else (some (0, false)))
set_option maxHeartbeats 8000000 in
set_option maxRecDepth 100000 in
theorem spec_NeedsOf.calls (a0 : Int) (r1 : Int) (r2 : Bool) (w : World) (h : spec_NeedsOf.f a0 = some (r1, r2)) :
  Calls Try.prog 37 #[.int .i64 a0] w fun e w' => e = .returned (.tuple #[.int .i64 r1, .bool r2]) ∧ Drawn0 w w' := by
 have H : ((spec_l8Cond.f a0).bind fun t101 => (if t101 = true then ((spec_l8Needs.f a0).bind fun t102 => (some (t102, true))) else (some (0, false)))) = some (r1, r2) := h; clear h; obtain ⟨t101, A20, H⟩ := bE H; have A2 := Aside0.mk A20; clear A20; by_cases c3 : t101 = true
 ·
  subst c3; replace H := iT H; obtain ⟨t102, A40, H⟩ := bE H; have A4 := Aside0.mk A40; clear A40; simp only [Option.some.injEq, Prod.mk.injEq] at H; obtain ⟨rfl, rfl⟩ := H; go_enter Try.func37, Try.ntmps37; go_wp2_with (first | ((with_reducible refine gate_callee (f := 64) rfl ?_); refine goesQ (some 5) Try.func64 #[.int .i64 a0] (spec_l8Cond.calls a0 true _ A2.out) fun nd => ?_) | ((with_reducible refine gate_callee (f := 69) rfl ?_); refine goesQ (some 8) Try.func69 #[.int .i64 a0] (spec_l8Needs.calls a0 t102 _ A4.out) fun nd => ?_))
  go_ret2; exact ⟨by first | rfl | (simp; done) | (simp [*]; done), by repeat (first | exact Drawn0.refl _ | apply Drawn0.step)⟩
 ·
  replace c3 := Bool.eq_false_iff.mpr c3; subst c3; replace H := iF H; simp only [Option.some.injEq, Prod.mk.injEq] at H; obtain ⟨rfl, rfl⟩ := H; go_enter Try.func37, Try.ntmps37; go_wp2_with (first | ((with_reducible refine gate_callee (f := 64) rfl ?_); refine goesQ (some 5) Try.func64 #[.int .i64 a0] (spec_l8Cond.calls a0 false _ A2.out) fun nd => ?_))
  go_ret2; exact ⟨by first | rfl | (simp; done) | (simp [*]; done), by repeat (first | exact Drawn0.refl _ | apply Drawn0.step)⟩

/-! ### spec_ContraryOf: function 38 -/
def spec_ContraryOf.f (a0 : Int) : Option (Int × Bool) := (spec_l8Cond.f a0).bind fun t101 => (if t101 = true then (some (Go.bits .xor .i64 a0 1, true)) else (some (0, false)))
set_option maxHeartbeats 8000000 in
set_option maxRecDepth 100000 in
theorem spec_ContraryOf.calls (a0 : Int) (r1 : Int) (r2 : Bool) (w : World) (h : spec_ContraryOf.f a0 = some (r1, r2)) :
  Calls Try.prog 38 #[.int .i64 a0] w fun e w' => e = .returned (.tuple #[.int .i64 r1, .bool r2]) ∧ Drawn0 w w' := by
 have H : ((spec_l8Cond.f a0).bind fun t101 => (if t101 = true then (some (Go.bits .xor .i64 a0 1, true)) else (some (0, false)))) = some (r1, r2) := h; clear h; obtain ⟨t101, A20, H⟩ := bE H; have A2 := Aside0.mk A20; clear A20; by_cases c3 : t101 = true
 ·
  subst c3; replace H := iT H; simp only [Option.some.injEq, Prod.mk.injEq] at H; obtain ⟨rfl, rfl⟩ := H; go_enter Try.func38, Try.ntmps38; go_wp2_with (first | ((with_reducible refine gate_callee (f := 64) rfl ?_); refine goesQ (some 5) Try.func64 #[.int .i64 a0] (spec_l8Cond.calls a0 true _ A2.out) fun nd => ?_))
  go_ret2; exact ⟨by first | rfl | (simp; done) | (simp [*]; done), by repeat (first | exact Drawn0.refl _ | apply Drawn0.step)⟩
 ·
  replace c3 := Bool.eq_false_iff.mpr c3; subst c3; replace H := iF H; simp only [Option.some.injEq, Prod.mk.injEq] at H; obtain ⟨rfl, rfl⟩ := H; go_enter Try.func38, Try.ntmps38; go_wp2_with (first | ((with_reducible refine gate_callee (f := 64) rfl ?_); refine goesQ (some 5) Try.func64 #[.int .i64 a0] (spec_l8Cond.calls a0 false _ A2.out) fun nd => ?_))
  go_ret2; exact ⟨by first | rfl | (simp; done) | (simp [*]; done), by repeat (first | exact Drawn0.refl _ | apply Drawn0.step)⟩

/-! ### spec_DrawCountTrue: function 39 -/
def spec_DrawCountTrue.f (l0 : List Int) : Option (Int) := if 0 < (l0.length : Int) then (if 1 ≤ (l0.length : Int) then (some (wrap64 ((Int.tmod (wrap64 (rd l0 0)) 34) - 1))) else (some (wrap64 ((Int.tmod (wrap64 (Go.bits .and .u64 ((IntKind.u64.wrap ((IntKind.u64.wrap (IntKind.u64.wrap (wrap64 (rd l0 0)))) + 1442695040888963407)) / 1099511627776) 255)) 34) - 1)))) else (if 1 ≤ (l0.length : Int) then (some (((0 : Int) % 34) - 1)) else (some (wrap64 ((Int.tmod (wrap64 (Go.bits .and .u64 (1442695040888963407 / 1099511627776) 255)) 34) - 1))))
set_option maxHeartbeats 8000000 in
set_option maxRecDepth 100000 in
theorem spec_DrawCountTrue.calls (A0 : Option Addr) (c0 : Nat) (l0 : List Int) (r : Int) (w : World) (hr0 : Kd.C (Kd.int .u8) w A0 l0.length l0) (hc0 : l0.length ≤ c0) (h : spec_DrawCountTrue.f l0 = some r) :
  Calls Try.prog 39 #[.slice A0 l0.length c0] w fun e w' => e = .returned (.int .i64 r) ∧ Below w.heap.size w w' := by
 have hu79 := Try.underlying79; have HR0 := Aside0.mk hr0; have HC0 := Aside0.mk hc0; clear hr0 hc0; have HB := Aside0.mk (Below.refl w.heap.size w); have H : (if 0 < (l0.length : Int) then (if 1 ≤ (l0.length : Int) then (some (wrap64 ((Int.tmod (wrap64 (rd l0 0)) 34) - 1))) else (some (wrap64 ((Int.tmod (wrap64 (Go.bits .and .u64 ((IntKind.u64.wrap ((IntKind.u64.wrap (IntKind.u64.wrap (wrap64 (rd l0 0)))) + 1442695040888963407)) / 1099511627776) 255)) 34) - 1)))) else (if 1 ≤ (l0.length : Int) then (some (((0 : Int) % 34) - 1)) else (some (wrap64 ((Int.tmod (wrap64 (Go.bits .and .u64 (1442695040888963407 / 1099511627776) 255)) 34) - 1))))) = some r := h; clear h; by_cases c2 : 0 < (l0.length : Int)
 ·
  rw [if_pos c2] at H; have c2b0 : decide (0 < (l0.length : Int)) = true := decide_eq_true c2; have c2b1 : decide (0 < l0.length) = true := decide_eq_true (by omega); clear c2; by_cases c3 : 1 ≤ (l0.length : Int)
  ·
   rw [if_pos c3] at H; have c3b0 : decide (1 ≤ (l0.length : Int)) = true := decide_eq_true c3; have c3b1 : decide (1 ≤ l0.length) = true := decide_eq_true (by omega); clear c3; obtain rfl := Option.some.inj H; go_enter Try.func39, Try.ntmps39; go_wp2_with (first | ((with_reducible refine gate_dst (N := 6) rfl ?_); refine boxE (w := w) oL (cs := #[.slice A0 l0.length c0, .int .i64 0, .int .u64 0]) (t := 79) ?_; clear HB; intro gb101 w4 HB BK101 GW101; have GE101 := GW101; obtain ⟨hcz5_0, hcz5_1, hcz5_2⟩ := cz3 BK101.out; obtain ⟨hfz5_0, hfz5_1, hfz5_2⟩ := fz3 BK101.out; have p102 : 0 ≤ (0 : Int) := (by omega); have q102 : 0 < (l0.length : Int) := of_decide_eq_true (by first | (with_reducible assumption) | assumption); obtain ⟨ad102, e102, hx102_0⟩ := Kd.at_int HR0.out 0 p102 q102; cases e102; have qi102 : (0 < l0.length) = True := eq_true (by omega); (try rw [show ((0 : Int)).toNat = 0 from rfl] at hx102_0); (try rw [Addr.add_zero'] at hx102_0); replace hx102_0 := (HB.out.cell (World.block_lt_of_cell? w _ hx102_0)).trans hx102_0; replace p102 := eq_true p102; replace q102 := eq_true q102) | go_in)
   repeat (go_quiet (first | ((with_reducible refine gate_dst (N := 6) rfl ?_); refine boxE (w := w) oL (cs := #[.slice A0 l0.length c0, .int .i64 0, .int .u64 0]) (t := 79) ?_; clear HB; intro gb101 w4 HB BK101 GW101; have GE101 := GW101; obtain ⟨hcz5_0, hcz5_1, hcz5_2⟩ := cz3 BK101.out; obtain ⟨hfz5_0, hfz5_1, hfz5_2⟩ := fz3 BK101.out; have p102 : 0 ≤ (0 : Int) := (by omega); have q102 : 0 < (l0.length : Int) := of_decide_eq_true (by first | (with_reducible assumption) | assumption); obtain ⟨ad102, e102, hx102_0⟩ := Kd.at_int HR0.out 0 p102 q102; cases e102; have qi102 : (0 < l0.length) = True := eq_true (by omega); (try rw [show ((0 : Int)).toNat = 0 from rfl] at hx102_0); (try rw [Addr.add_zero'] at hx102_0); replace hx102_0 := (HB.out.cell (World.block_lt_of_cell? w _ hx102_0)).trans hx102_0; replace p102 := eq_true p102; replace q102 := eq_true q102) | go_in); try go_wp2_with (first | ((with_reducible refine gate_dst (N := 6) rfl ?_); refine boxE (w := w) oL (cs := #[.slice A0 l0.length c0, .int .i64 0, .int .u64 0]) (t := 79) ?_; clear HB; intro gb101 w4 HB BK101 GW101; have GE101 := GW101; obtain ⟨hcz5_0, hcz5_1, hcz5_2⟩ := cz3 BK101.out; obtain ⟨hfz5_0, hfz5_1, hfz5_2⟩ := fz3 BK101.out; have p102 : 0 ≤ (0 : Int) := (by omega); have q102 : 0 < (l0.length : Int) := of_decide_eq_true (by first | (with_reducible assumption) | assumption); obtain ⟨ad102, e102, hx102_0⟩ := Kd.at_int HR0.out 0 p102 q102; cases e102; have qi102 : (0 < l0.length) = True := eq_true (by omega); (try rw [show ((0 : Int)).toNat = 0 from rfl] at hx102_0); (try rw [Addr.add_zero'] at hx102_0); replace hx102_0 := (HB.out.cell (World.block_lt_of_cell? w _ hx102_0)).trans hx102_0; replace p102 := eq_true p102; replace q102 := eq_true q102) | go_in))
   go_ret; exact ⟨oE, oL⟩
  ·
   rw [if_neg c3] at H; have c3b0 : decide (1 ≤ (l0.length : Int)) = false := decide_eq_false c3; have c3b1 : decide (1 ≤ l0.length) = false := decide_eq_false (by omega); clear c3; obtain rfl := Option.some.inj H; go_enter Try.func39, Try.ntmps39; go_wp2_with (first | ((with_reducible refine gate_dst (N := 6) rfl ?_); refine boxE (w := w) oL (cs := #[.slice A0 l0.length c0, .int .i64 0, .int .u64 0]) (t := 79) ?_; clear HB; intro gb101 w6 HB BK101 GW101; have GE101 := GW101; obtain ⟨hcz7_0, hcz7_1, hcz7_2⟩ := cz3 BK101.out; obtain ⟨hfz7_0, hfz7_1, hfz7_2⟩ := fz3 BK101.out; have p102 : 0 ≤ (0 : Int) := (by omega); have q102 : 0 < (l0.length : Int) := of_decide_eq_true (by first | (with_reducible assumption) | assumption); obtain ⟨ad102, e102, hx102_0⟩ := Kd.at_int HR0.out 0 p102 q102; cases e102; have qi102 : (0 < l0.length) = True := eq_true (by omega); (try rw [show ((0 : Int)).toNat = 0 from rfl] at hx102_0); (try rw [Addr.add_zero'] at hx102_0); replace hx102_0 := (HB.out.cell (World.block_lt_of_cell? w _ hx102_0)).trans hx102_0; replace p102 := eq_true p102; replace q102 := eq_true q102) | go_in)
   repeat (go_quiet (first | ((with_reducible refine gate_dst (N := 6) rfl ?_); refine boxE (w := w) oL (cs := #[.slice A0 l0.length c0, .int .i64 0, .int .u64 0]) (t := 79) ?_; clear HB; intro gb101 w6 HB BK101 GW101; have GE101 := GW101; obtain ⟨hcz7_0, hcz7_1, hcz7_2⟩ := cz3 BK101.out; obtain ⟨hfz7_0, hfz7_1, hfz7_2⟩ := fz3 BK101.out; have p102 : 0 ≤ (0 : Int) := (by omega); have q102 : 0 < (l0.length : Int) := of_decide_eq_true (by first | (with_reducible assumption) | assumption); obtain ⟨ad102, e102, hx102_0⟩ := Kd.at_int HR0.out 0 p102 q102; cases e102; have qi102 : (0 < l0.length) = True := eq_true (by omega); (try rw [show ((0 : Int)).toNat = 0 from rfl] at hx102_0); (try rw [Addr.add_zero'] at hx102_0); replace hx102_0 := (HB.out.cell (World.block_lt_of_cell? w _ hx102_0)).trans hx102_0; replace p102 := eq_true p102; replace q102 := eq_true q102) | go_in); try go_wp2_with (first | ((with_reducible refine gate_dst (N := 6) rfl ?_); refine boxE (w := w) oL (cs := #[.slice A0 l0.length c0, .int .i64 0, .int .u64 0]) (t := 79) ?_; clear HB; intro gb101 w6 HB BK101 GW101; have GE101 := GW101; obtain ⟨hcz7_0, hcz7_1, hcz7_2⟩ := cz3 BK101.out; obtain ⟨hfz7_0, hfz7_1, hfz7_2⟩ := fz3 BK101.out; have p102 : 0 ≤ (0 : Int) := (by omega); have q102 : 0 < (l0.length : Int) := of_decide_eq_true (by first | (with_reducible assumption) | assumption); obtain ⟨ad102, e102, hx102_0⟩ := Kd.at_int HR0.out 0 p102 q102; cases e102; have qi102 : (0 < l0.length) = True := eq_true (by omega); (try rw [show ((0 : Int)).toNat = 0 from rfl] at hx102_0); (try rw [Addr.add_zero'] at hx102_0); replace hx102_0 := (HB.out.cell (World.block_lt_of_cell? w _ hx102_0)).trans hx102_0; replace p102 := eq_true p102; replace q102 := eq_true q102) | go_in))
   go_ret; exact ⟨oE, oL⟩
 ·
  rw [if_neg c2] at H; have c2b0 : decide (0 < (l0.length : Int)) = false := decide_eq_false c2; have c2b1 : decide (0 < l0.length) = false := decide_eq_false (by omega); clear c2; by_cases c8 : 1 ≤ (l0.length : Int)
  ·
   rw [if_pos c8] at H; have c8b0 : decide (1 ≤ (l0.length : Int)) = true := decide_eq_true c8; have c8b1 : decide (1 ≤ l0.length) = true := decide_eq_true (by omega); clear c8; obtain rfl := Option.some.inj H; go_enter Try.func39, Try.ntmps39; go_wp2_with (first | ((with_reducible refine gate_dst (N := 6) rfl ?_); refine boxE (w := w) oL (cs := #[.slice A0 l0.length c0, .int .i64 0, .int .u64 0]) (t := 79) ?_; clear HB; intro gb101 w9 HB BK101 GW101; have GE101 := GW101; obtain ⟨hcz10_0, hcz10_1, hcz10_2⟩ := cz3 BK101.out; obtain ⟨hfz10_0, hfz10_1, hfz10_2⟩ := fz3 BK101.out) | go_in)
   repeat (go_quiet (first | ((with_reducible refine gate_dst (N := 6) rfl ?_); refine boxE (w := w) oL (cs := #[.slice A0 l0.length c0, .int .i64 0, .int .u64 0]) (t := 79) ?_; clear HB; intro gb101 w9 HB BK101 GW101; have GE101 := GW101; obtain ⟨hcz10_0, hcz10_1, hcz10_2⟩ := cz3 BK101.out; obtain ⟨hfz10_0, hfz10_1, hfz10_2⟩ := fz3 BK101.out) | go_in); try go_wp2_with (first | ((with_reducible refine gate_dst (N := 6) rfl ?_); refine boxE (w := w) oL (cs := #[.slice A0 l0.length c0, .int .i64 0, .int .u64 0]) (t := 79) ?_; clear HB; intro gb101 w9 HB BK101 GW101; have GE101 := GW101; obtain ⟨hcz10_0, hcz10_1, hcz10_2⟩ := cz3 BK101.out; obtain ⟨hfz10_0, hfz10_1, hfz10_2⟩ := fz3 BK101.out) | go_in))
   go_ret; exact ⟨oE, oL⟩
  ·
   rw [if_neg c8] at H; have c8b0 : decide (1 ≤ (l0.length : Int)) = false := decide_eq_false c8; have c8b1 : decide (1 ≤ l0.length) = false := decide_eq_false (by omega); clear c8; obtain rfl := Option.some.inj H; go_enter Try.func39, Try.ntmps39; go_wp2_with (first | ((with_reducible refine gate_dst (N := 6) rfl ?_); refine boxE (w := w) oL (cs := #[.slice A0 l0.length c0, .int .i64 0, .int .u64 0]) (t := 79) ?_; clear HB; intro gb101 w11 HB BK101 GW101; have GE101 := GW101; obtain ⟨hcz12_0, hcz12_1, hcz12_2⟩ := cz3 BK101.out; obtain ⟨hfz12_0, hfz12_1, hfz12_2⟩ := fz3 BK101.out) | go_in)
   repeat (go_quiet (first | ((with_reducible refine gate_dst (N := 6) rfl ?_); refine boxE (w := w) oL (cs := #[.slice A0 l0.length c0, .int .i64 0, .int .u64 0]) (t := 79) ?_; clear HB; intro gb101 w11 HB BK101 GW101; have GE101 := GW101; obtain ⟨hcz12_0, hcz12_1, hcz12_2⟩ := cz3 BK101.out; obtain ⟨hfz12_0, hfz12_1, hfz12_2⟩ := fz3 BK101.out) | go_in); try go_wp2_with (first | ((with_reducible refine gate_dst (N := 6) rfl ?_); refine boxE (w := w) oL (cs := #[.slice A0 l0.length c0, .int .i64 0, .int .u64 0]) (t := 79) ?_; clear HB; intro gb101 w11 HB BK101 GW101; have GE101 := GW101; obtain ⟨hcz12_0, hcz12_1, hcz12_2⟩ := cz3 BK101.out; obtain ⟨hfz12_0, hfz12_1, hfz12_2⟩ := fz3 BK101.out) | go_in))
   go_ret; exact ⟨oE, oL⟩

/-! ### spec_l1Flag: function 70 -/
def spec_l1Flag.f (a0 : Bool) (a1 : Int) : Option (Int) := if a0 = true then (some a1) else (some 0)
set_option maxHeartbeats 8000000 in
set_option maxRecDepth 100000 in
theorem spec_l1Flag.calls (a0 : Bool) (a1 : Int) (r : Int) (w : World) (h : spec_l1Flag.f a0 a1 = some r) :
  Calls Try.prog 70 #[.bool a0, .int .i64 a1] w fun e w' => e = .returned (.int .i64 r) ∧ Drawn0 w w' := by
 have H : (if a0 = true then (some a1) else (some 0)) = some r := h; clear h; by_cases c3 : a0 = true
 · subst c3; replace H := iT H; obtain rfl := Option.some.inj H; go_enter Try.func70, Try.ntmps70; go_wp2; go_ret; exact ⟨by first | rfl | (simp; done) | (simp [*]; done), by repeat (first | exact Drawn0.refl _ | apply Drawn0.step)⟩
 · replace c3 := Bool.eq_false_iff.mpr c3; subst c3; replace H := iF H; obtain rfl := Option.some.inj H; go_enter Try.func70, Try.ntmps70; go_wp2; go_ret; exact ⟨by first | rfl | (simp; done) | (simp [*]; done), by repeat (first | exact Drawn0.refl _ | apply Drawn0.step)⟩

/-! ### spec_CountTrue: function 40 -/
def spec_CountTrue.l0 : Nat → Int → Int → Int → Option (Int × Bool)
 | 0, _, _, _ => none
 | k + 1, x0, x4, x5 => if x5 < 16 then ((spec_l8Test.f x5 x0).bind fun t102 => ((spec_l1Flag.f t102 1).bind fun t103 => (spec_CountTrue.l0 k x0 (wrap64 (x4 + t103)) (wrap64 (x5 + 1))))) else (some (x4, true))
def spec_CountTrue.f (k : Nat) (a0 : Int) : Option (Int × Bool) := (spec_l1Flags.f a0).bind fun t101 => (if t101 = true then (spec_CountTrue.l0 k a0 0 0) else (some (0, false)))
theorem spec_CountTrue.mono_l : ∀ k, (∀ y0 y1 y2, LeO (spec_CountTrue.l0 k y0 y1 y2) (spec_CountTrue.l0 (k + 1) y0 y1 y2))
 | 0 => fun _ _ _ r h => by simp [spec_CountTrue.l0] at h
 | k + 1 => by
  have ih0 := spec_CountTrue.mono_l k
  ·
   intro y0 y1 y2
   unfold spec_CountTrue.l0
   repeat' first
   | (with_reducible exact ih0 _ _ _)
   | (with_reducible exact LeO.refl _)
   | (with_reducible exact LeO.none _)
   | (with_reducible refine LeO.ite ?_ ?_)
   | (with_reducible refine LeO.bind ?_ (fun _ => ?_))
   | exact ih0 _ _ _
   | exact LeO.none _
   | refine LeO.ite ?_ ?_
   | refine LeO.bind ?_ (fun _ => ?_)
theorem spec_CountTrue.mono : ∀ a0 k, LeO (spec_CountTrue.f k a0) (spec_CountTrue.f (k + 1) a0) := by
 intro a0 k
 have ih0 := spec_CountTrue.mono_l k
 unfold spec_CountTrue.f
 repeat' first
   | (with_reducible exact ih0 _ _ _)
   | (with_reducible exact LeO.refl _)
   | (with_reducible exact LeO.none _)
   | (with_reducible refine LeO.ite ?_ ?_)
   | (with_reducible refine LeO.bind ?_ (fun _ => ?_))
   | exact ih0 _ _ _
   | exact LeO.none _
   | refine LeO.ite ?_ ?_
   | refine LeO.bind ?_ (fun _ => ?_)
set_option maxHeartbeats 8000000 in
set_option maxRecDepth 100000 in
theorem spec_CountTrue.calls (k : Nat) (a0 : Int) (r1 : Int) (r2 : Bool) (w : World) (h : spec_CountTrue.f k a0 = some (r1, r2)) :
  Calls Try.prog 40 #[.int .i64 a0] w fun e w' => e = .returned (.tuple #[.int .i64 r1, .bool r2]) ∧ Drawn0 w w' := by
 have H : ((spec_l1Flags.f a0).bind fun t101 => (if t101 = true then (spec_CountTrue.l0 k a0 0 0) else (some (0, false)))) = some (r1, r2) := h; clear h; obtain ⟨t101, A20, H⟩ := bE H; have A2 := Aside0.mk A20; clear A20; by_cases c3 : t101 = true
 ·
  subst c3; replace H := iT H; have H' := Aside0.mk H; clear H; go_enter Try.func40, Try.ntmps40; go_wp2_with (first | ((with_reducible refine gate_callee (f := 65) rfl ?_); refine goesQ (some 7) Try.func65 #[.int .i64 a0] (spec_l1Flags.calls a0 true _ A2.out) fun nd => ?_))
  go_loopg [4, 5] k (fun kq v4 v5 w' => ∃ (x4_1 : Int) (x5_1 : Int), v4 = .int .i64 x4_1 ∧ v5 = .int .i64 x5_1 ∧ Aside0 (spec_CountTrue.l0 kq a0 x4_1 x5_1 = some (r1, r2)) ∧ Aside0 (kq ≤ k) ∧ Drawn0 w w')
  case atStart => exact ⟨(0), (0), (by first | rfl | (simp; done) | (simp [*]; done)), (by first | rfl | (simp; done) | (simp [*]; done)), H', ⟨Nat.le_refl _⟩, by repeat (first | exact Drawn0.refl _ | apply Drawn0.step)⟩
  case round =>
   clear H'; (try clear p2); (try clear c3); obtain ⟨x4_1, x5_1, rfl, rfl, HA, HK1, ⟨m1, rfl⟩⟩ := hrel; cases gk with
   | zero => exact absurd HA.out (by simp [spec_CountTrue.l0])
   | succ k1 =>
    have H := HA.out; clear HA; simp only [spec_CountTrue.l0] at H; by_cases c4 : x5_1 < 16
    ·
     rw [if_pos c4] at H; have c4b0 : decide (x5_1 < 16) = true := decide_eq_true c4; clear c4; obtain ⟨t102, A50, H⟩ := bE H; have A5 := Aside0.mk A50; clear A50; obtain ⟨t103, A60, H⟩ := bE H; have A6 := Aside0.mk A60; clear A60; have H' := Aside0.mk H; clear H; go_wp2_with (first | ((with_reducible refine gate_callee (f := 66) rfl ?_); refine goesQ (some 16) Try.func66 #[.int .i64 x5_1, .int .i64 a0] (spec_l8Test.calls x5_1 a0 t102 _ A5.out) fun nd => ?_) | ((with_reducible refine gate_callee (f := 70) rfl ?_); refine goesQ (some 17) Try.func70 #[.bool t102, .int .i64 1] (spec_l1Flag.calls t102 1 t103 _ A6.out) fun nd => ?_))
     go_roundg k1; case measure => have := HK1.out; omega
     case rel => exact ⟨(wrap64 (x4_1 + t103)), (wrap64 (x5_1 + 1)), (by first | rfl | (simp; done) | (simp [*]; done)), (by first | rfl | (simp; done) | (simp [*]; done)), H', ⟨by have := HK1.out; omega⟩, by repeat (first | exact Drawn0.refl _ | apply Drawn0.step)⟩
    · rw [if_neg c4] at H; have c4b0 : decide (x5_1 < 16) = false := decide_eq_false c4; clear c4; simp only [Option.some.injEq, Prod.mk.injEq] at H; obtain ⟨rfl, rfl⟩ := H; go_wp2; go_ret2; exact ⟨by first | rfl | (simp; done) | (simp [*]; done), by repeat (first | exact Drawn0.refl _ | apply Drawn0.step)⟩
 ·
  replace c3 := Bool.eq_false_iff.mpr c3; subst c3; replace H := iF H; simp only [Option.some.injEq, Prod.mk.injEq] at H; obtain ⟨rfl, rfl⟩ := H; go_enter Try.func40, Try.ntmps40; go_wp2_with (first | ((with_reducible refine gate_callee (f := 65) rfl ?_); refine goesQ (some 7) Try.func65 #[.int .i64 a0] (spec_l1Flags.calls a0 false _ A2.out) fun nd => ?_))
  go_ret2; exact ⟨by first | rfl | (simp; done) | (simp [*]; done), by repeat (first | exact Drawn0.refl _ | apply Drawn0.step)⟩

end Go.Proofs.Ytdkodgchdhcjlaa.E
