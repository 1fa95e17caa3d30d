-- Made by this session's program gprint.py out of the translation. Not trusted: Lean checks it.
import Derived.Test.YtlebikjghlaooaaQx0
import Derived.Test.YtlebikjghlaooaaQx15
namespace Go.Proofs.Ytlebikjghlaooaa.Q
open Go.RowKit Go.Proofs.YtlebikjghlaooaaW.PrintWords Go.Proofs.YtlebikjghlaooaaW.PrintLast Go.Proofs.YtlebikjghlaooaaW.PrintMore
attribute [local go_sem] max2_int min2_int max_two min_two max_three min_three max_four min_four   -- for this text's walks alone
set_option linter.unusedVariables false
set_option linter.unusedSimpArgs false

/-! ### slices_ContainsFunc_88_g89: function 88 -/
def slices_ContainsFunc_88_g89.f (k : Nat) (l0 : List Int)  : Option (Bool) := (slices_IndexFunc_111_g89.f k l0).bind fun t101 => (some (decide (t101 ≥ 0)))
theorem slices_ContainsFunc_88_g89.mono : ∀ a0 k, LeO (slices_ContainsFunc_88_g89.f k a0) (slices_ContainsFunc_88_g89.f (k + 1) a0) := by
 intro a0 k
 unfold slices_ContainsFunc_88_g89.f
 repeat' first
   | (with_reducible exact slices_IndexFunc_111_g89.mono _ _)
   | (with_reducible exact LeO.refl _)
   | (with_reducible exact LeO.none _)
   | (with_reducible refine LeO.ite ?_ ?_)
   | (with_reducible refine LeO.bind ?_ (fun _ => ?_))
   | exact slices_IndexFunc_111_g89.mono _ _
   | exact LeO.none _
   | refine LeO.ite ?_ ?_
   | refine LeO.bind ?_ (fun _ => ?_)
set_option maxHeartbeats 8000000 in
set_option maxRecDepth 100000 in
theorem slices_ContainsFunc_88_g89.calls (k : Nat) (A0 : Option Addr) (c0 : Nat) (l0 : List Int)  (r : Bool) (w : World) (hr0 : Kd.C (Kd.int .i64) w A0 l0.length l0) (hc0 : l0.length ≤ c0) (h : slices_ContainsFunc_88_g89.f k l0 = some r) :
  Calls Try.prog 88 #[.slice A0 l0.length c0, (.func (.func 89) #[] #[])] w fun e w' => e = .returned (.bool r) ∧ Drawn0 w w' := by
 have HR0 := Aside0.mk hr0; have HC0 := Aside0.mk hc0; clear hr0 hc0; have H : ((slices_IndexFunc_111_g89.f k l0).bind fun t101 => (some (decide (t101 ≥ 0)))) = some r := h; clear h; obtain ⟨t101, A30, H⟩ := bE H; have A3 := Aside0.mk A30; clear A30; obtain rfl := Option.some.inj H; go_enter Try.func88, Try.ntmps88; go_wp2_with (first | (go_at_call 111; (with_reducible refine (slices_IndexFunc_111_g89.calls k _ _ l0 t101 _ ?side1 ?side2 A3.out).mono ?_); (case side1 => repeat (first | exact HR0.out | (with_reducible refine Kd.C_alloc ?_ _) | (with_reducible refine Kd.C_drewN ?_ _) | (with_reducible refine Kd.C_drew ?_))); (case side2 => exact HC0.out); rintro e w' ⟨rfl, ⟨nd, rfl⟩⟩))
 go_ret; exact ⟨by first | rfl | (simp; done) | (simp [*]; done), by repeat (first | exact Drawn0.refl _ | apply Drawn0.step)⟩

/-! ### slices_IndexFunc_112_g91: function 112 -/
def slices_IndexFunc_112_g91.l0 : Nat → List (S75) → Int → Int → Option (Int)
 | 0, _, _, _ => none
 | k + 1, x0, x7, x8 => if x8 < x7 then (if 0 ≤ x8 then (if x8 < (x0.length : Int) then ((impl_GoodBus_2.f ((rd_T75 x0 x8).f0) ((rd_T75 x0 x8).f1) ((rd_T75 x0 x8).f2) ((rd_T75 x0 x8).f3) ((rd_T75 x0 x8).f4)).bind fun t102 => (if t102 = true then (some x8) else (slices_IndexFunc_112_g91.l0 k x0 x7 (wrap64 (x8 + 1))))) else (none)) else (none)) else (some (-1))
def slices_IndexFunc_112_g91.f (k : Nat) (l0 : List (S75))  : Option (Int) := slices_IndexFunc_112_g91.l0 k l0 (l0.length : Int) 0
theorem slices_IndexFunc_112_g91.mono_l : ∀ k, (∀ y0 y1 y2, LeO (slices_IndexFunc_112_g91.l0 k y0 y1 y2) (slices_IndexFunc_112_g91.l0 (k + 1) y0 y1 y2))
 | 0 => fun _ _ _ r h => by simp [slices_IndexFunc_112_g91.l0] at h
 | k + 1 => by
  have ih0 := slices_IndexFunc_112_g91.mono_l k
  ·
   intro y0 y1 y2
   unfold slices_IndexFunc_112_g91.l0
   repeat' first
   | (with_reducible exact ih0 _ _ _)
   | (with_reducible exact LeO.refl _)
   | (with_reducible exact LeO.none _)
   | (with_reducible refine LeO.ite ?_ ?_)
   | (with_reducible refine LeO.bind ?_ (fun _ => ?_))
   | exact ih0 _ _ _
   | exact LeO.none _
   | refine LeO.ite ?_ ?_
   | refine LeO.bind ?_ (fun _ => ?_)
theorem slices_IndexFunc_112_g91.mono : ∀ a0 k, LeO (slices_IndexFunc_112_g91.f k a0) (slices_IndexFunc_112_g91.f (k + 1) a0) := by
 intro a0 k
 have ih0 := slices_IndexFunc_112_g91.mono_l k
 unfold slices_IndexFunc_112_g91.f
 repeat' first
   | (with_reducible exact ih0 _ _ _)
   | (with_reducible exact LeO.refl _)
   | (with_reducible exact LeO.none _)
   | (with_reducible refine LeO.ite ?_ ?_)
   | (with_reducible refine LeO.bind ?_ (fun _ => ?_))
   | exact ih0 _ _ _
   | exact LeO.none _
   | refine LeO.ite ?_ ?_
   | refine LeO.bind ?_ (fun _ => ?_)
set_option maxHeartbeats 8000000 in
set_option maxRecDepth 100000 in
theorem slices_IndexFunc_112_g91.calls (k : Nat) (A0 : Option Addr) (c0 : Nat) (l0 : List (S75))  (r : Int) (w : World) (hr0 : Kd.C k75 w A0 l0.length l0) (hc0 : l0.length ≤ c0) (h : slices_IndexFunc_112_g91.f k l0 = some r) :
  Calls Try.prog 112 #[.slice A0 l0.length c0, (.func (.func 91) #[] #[])] w fun e w' => e = .returned (.int .i64 r) ∧ Below w.heap.size w w' := by
 have hu75 := Try.underlying75; have HR0 := Aside0.mk hr0; have HC0 := Aside0.mk hc0; clear hr0 hc0; have HB := Aside0.mk (Below.refl w.heap.size w); have H : (slices_IndexFunc_112_g91.l0 k l0 (l0.length : Int) 0) = some r := h; clear h; have H' := Aside0.mk H; clear H; go_enter Try.func112, Try.ntmps112; go_wp2; go_loopg [8] k (fun kq v8 w' => ∃ (x8_1 : Int), v8 = .int .i64 x8_1 ∧ Aside0 (slices_IndexFunc_112_g91.l0 kq l0 (l0.length : Int) x8_1 = some r) ∧ Aside0 (kq ≤ k) ∧ Aside0 (Below w.heap.size w w'))
 case atStart => exact ⟨(0), (by first | rfl | (simp; done) | (simp [*]; done)), H', ⟨Nat.le_refl _⟩, ⟨by repeat (first | (with_reducible first | exact HB.out | apply below_alloc | apply pw_below_drewN | apply below_drew1) | exact HB.out)⟩⟩
 case round =>
  clear H'; (try clear c1); (try clear p2); obtain ⟨x8_1, rfl, HA, HK1, HB⟩ := hrel; cases gk with
  | zero => exact absurd HA.out (by simp [slices_IndexFunc_112_g91.l0])
  | succ k1 =>
   have H := HA.out; clear HA; simp only [slices_IndexFunc_112_g91.l0] at H; by_cases c3 : x8_1 < (l0.length : Int)
   ·
    rw [if_pos c3] at H; have c3b0 : decide (x8_1 < (l0.length : Int)) = true := decide_eq_true c3; clear c3; by_cases c4 : 0 ≤ x8_1
    ·
     rw [if_pos c4] at H; have c4b0 : decide (0 ≤ x8_1) = true := decide_eq_true c4; clear c4; by_cases c5 : x8_1 < (l0.length : Int)
     ·
      rw [if_pos c5] at H; have c5b0 : decide (x8_1 < (l0.length : Int)) = true := decide_eq_true c5; clear c5; obtain ⟨t102, A60, H⟩ := bE H; have A6 := Aside0.mk A60; clear A60; by_cases c7 : t102 = true
      ·
       subst c7; replace H := iT H; obtain rfl := Option.some.inj H; have p101 : 0 ≤ (x8_1 : Int) := of_decide_eq_true (by first | (with_reducible assumption) | assumption); have q101 : x8_1 < (l0.length : Int) := of_decide_eq_true (by first | (with_reducible assumption) | assumption); obtain ⟨ad101, e101, hx101_0, hx101_1, hx101_2, hx101_3, hx101_4⟩ := at_T75 HR0.out x8_1 p101 q101; cases e101
       replace hx101_0 := (HB.out.cell (World.block_lt_of_cell? w _ hx101_0)).trans hx101_0; replace hx101_1 := (HB.out.cell (World.block_lt_of_cell? w _ hx101_1)).trans hx101_1; replace hx101_2 := (HB.out.cell (World.block_lt_of_cell? w _ hx101_2)).trans hx101_2; replace hx101_3 := (HB.out.cell (World.block_lt_of_cell? w _ hx101_3)).trans hx101_3; replace hx101_4 := (HB.out.cell (World.block_lt_of_cell? w _ hx101_4)).trans hx101_4; replace p101 := eq_true p101; replace q101 := eq_true q101; go_wp2_with (first | (go_at_call 91; (with_reducible refine (impl_GoodBus_2.calls ((rd_T75 l0 x8_1).f0) ((rd_T75 l0 x8_1).f1) ((rd_T75 l0 x8_1).f2) ((rd_T75 l0 x8_1).f3) ((rd_T75 l0 x8_1).f4) true _ A6.out).mono ?_); rintro e w8 ⟨rfl, hb⟩; have n0_ := Aside0.mk (below_step oL hb); clear HB; have HB := n0_; clear n0_; (try clear hb); (try clear hb2); (try clear hk); (try clear hi)))
       go_ret; exact ⟨oE, oL⟩
      ·
       replace c7 := Bool.eq_false_iff.mpr c7; subst c7; replace H := iF H; have H' := Aside0.mk H; clear H; have p101 : 0 ≤ (x8_1 : Int) := of_decide_eq_true (by first | (with_reducible assumption) | assumption); have q101 : x8_1 < (l0.length : Int) := of_decide_eq_true (by first | (with_reducible assumption) | assumption); obtain ⟨ad101, e101, hx101_0, hx101_1, hx101_2, hx101_3, hx101_4⟩ := at_T75 HR0.out x8_1 p101 q101; cases e101
       replace hx101_0 := (HB.out.cell (World.block_lt_of_cell? w _ hx101_0)).trans hx101_0; replace hx101_1 := (HB.out.cell (World.block_lt_of_cell? w _ hx101_1)).trans hx101_1; replace hx101_2 := (HB.out.cell (World.block_lt_of_cell? w _ hx101_2)).trans hx101_2; replace hx101_3 := (HB.out.cell (World.block_lt_of_cell? w _ hx101_3)).trans hx101_3; replace hx101_4 := (HB.out.cell (World.block_lt_of_cell? w _ hx101_4)).trans hx101_4; replace p101 := eq_true p101; replace q101 := eq_true q101; go_wp2_with (first | (go_at_call 91; (with_reducible refine (impl_GoodBus_2.calls ((rd_T75 l0 x8_1).f0) ((rd_T75 l0 x8_1).f1) ((rd_T75 l0 x8_1).f2) ((rd_T75 l0 x8_1).f3) ((rd_T75 l0 x8_1).f4) false _ A6.out).mono ?_); rintro e w9 ⟨rfl, hb⟩; have n0_ := Aside0.mk (below_step oL hb); clear HB; have HB := n0_; clear n0_; (try clear hb); (try clear hb2); (try clear hk); (try clear hi)))
       go_roundg k1; case measure => have := HK1.out; omega
       case rel => exact ⟨(wrap64 (x8_1 + 1)), (by first | rfl | (simp; done) | (simp [*]; done)), H', ⟨by have := HK1.out; omega⟩, ⟨by repeat (first | (with_reducible first | exact HB.out | apply below_alloc | apply pw_below_drewN | apply below_drew1) | exact HB.out)⟩⟩
     · rw [if_neg c5] at H; exact absurd H (by simp)
    · rw [if_neg c4] at H; exact absurd H (by simp)
   · rw [if_neg c3] at H; have c3b0 : decide (x8_1 < (l0.length : Int)) = false := decide_eq_false c3; clear c3; obtain rfl := Option.some.inj H; go_wp2; go_ret; exact ⟨oE, oL⟩

/-! ### slices_ContainsFunc_90_g91: function 90 -/
def slices_ContainsFunc_90_g91.f (k : Nat) (l0 : List (S75))  : Option (Bool) := (slices_IndexFunc_112_g91.f k l0).bind fun t101 => (some (decide (t101 ≥ 0)))
theorem slices_ContainsFunc_90_g91.mono : ∀ a0 k, LeO (slices_ContainsFunc_90_g91.f k a0) (slices_ContainsFunc_90_g91.f (k + 1) a0) := by
 intro a0 k
 unfold slices_ContainsFunc_90_g91.f
 repeat' first
   | (with_reducible exact slices_IndexFunc_112_g91.mono _ _)
   | (with_reducible exact LeO.refl _)
   | (with_reducible exact LeO.none _)
   | (with_reducible refine LeO.ite ?_ ?_)
   | (with_reducible refine LeO.bind ?_ (fun _ => ?_))
   | exact slices_IndexFunc_112_g91.mono _ _
   | exact LeO.none _
   | refine LeO.ite ?_ ?_
   | refine LeO.bind ?_ (fun _ => ?_)
set_option maxHeartbeats 8000000 in
set_option maxRecDepth 100000 in
theorem slices_ContainsFunc_90_g91.calls (k : Nat) (A0 : Option Addr) (c0 : Nat) (l0 : List (S75))  (r : Bool) (w : World) (hr0 : Kd.C k75 w A0 l0.length l0) (hc0 : l0.length ≤ c0) (h : slices_ContainsFunc_90_g91.f k l0 = some r) :
  Calls Try.prog 90 #[.slice A0 l0.length c0, (.func (.func 91) #[] #[])] w fun e w' => e = .returned (.bool r) ∧ Below w.heap.size w w' := by
 have HR0 := Aside0.mk hr0; have HC0 := Aside0.mk hc0; clear hr0 hc0; have HB := Aside0.mk (Below.refl w.heap.size w); have H : ((slices_IndexFunc_112_g91.f k l0).bind fun t101 => (some (decide (t101 ≥ 0)))) = some r := h; clear h; obtain ⟨t101, A30, H⟩ := bE H; have A3 := Aside0.mk A30; clear A30; obtain rfl := Option.some.inj H; go_enter Try.func90, Try.ntmps90; go_wp2_with (first | (go_at_call 112; (with_reducible refine (slices_IndexFunc_112_g91.calls k _ _ l0 t101 _ ?side1 ?side2 A3.out).mono ?_); (case side1 => repeat (first | exact HR0.out | (with_reducible refine Kd.C_alloc ?_ _) | (with_reducible refine Kd.C_drewN ?_ _) | (with_reducible refine Kd.C_drew ?_))); (case side2 => exact HC0.out); rintro e w4 ⟨rfl, hb⟩; have n0_ := Aside0.mk (below_step oL hb); clear HB; have HB := n0_; clear n0_; (try clear hb); (try clear hb2); (try clear hk); (try clear hi)))
 go_ret; exact ⟨oE, oL⟩

/-! ### impl_GoodBus: function 52 -/
def impl_GoodBus.f (k : Nat) (l0_0 : List Int) (l0_1 : List (S75)) : Option (Bool) := if (l0_0.length : Int) = 512 then (if (l0_1.length : Int) ≤ 400 then ((slices_ContainsFunc_88_g89.f k l0_0).bind fun t102 => (if t102 = true then (some false) else ((slices_ContainsFunc_90_g91.f k l0_1).bind fun t103 => (some (!t103))))) else (some false)) else (some false)
theorem impl_GoodBus.mono : ∀ a0 a1 k, LeO (impl_GoodBus.f k a0 a1) (impl_GoodBus.f (k + 1) a0 a1) := by
 intro a0 a1 k
 unfold impl_GoodBus.f
 repeat' first
   | (with_reducible exact slices_ContainsFunc_88_g89.mono _ _)
   | (with_reducible exact slices_ContainsFunc_90_g91.mono _ _)
   | (with_reducible exact LeO.refl _)
   | (with_reducible exact LeO.none _)
   | (with_reducible refine LeO.ite ?_ ?_)
   | (with_reducible refine LeO.bind ?_ (fun _ => ?_))
   | exact slices_ContainsFunc_88_g89.mono _ _
   | exact slices_ContainsFunc_90_g91.mono _ _
   | exact LeO.none _
   | refine LeO.ite ?_ ?_
   | refine LeO.bind ?_ (fun _ => ?_)
set_option maxHeartbeats 8000000 in
set_option maxRecDepth 100000 in
theorem impl_GoodBus.calls (k : Nat) (A0_0 : Option Addr) (c0_0 : Nat) (l0_0 : List Int) (A0_1 : Option Addr) (c0_1 : Nat) (l0_1 : List (S75)) (r : Bool) (w : World) (hr0_0 : Kd.C (Kd.int .i64) w A0_0 l0_0.length l0_0) (hc0_0 : l0_0.length ≤ c0_0) (hr0_1 : Kd.C k75 w A0_1 l0_1.length l0_1) (hc0_1 : l0_1.length ≤ c0_1) (h : impl_GoodBus.f k l0_0 l0_1 = some r) :
  Calls Try.prog 52 #[.agg #[.slice A0_0 l0_0.length c0_0, .slice A0_1 l0_1.length c0_1]] w fun e w' => e = .returned (.bool r) ∧ Below w.heap.size w w' := by
 have hu35 := Try.underlying35; have HR0_0 := Aside0.mk hr0_0; have HC0_0 := Aside0.mk hc0_0; clear hr0_0 hc0_0; have HR0_1 := Aside0.mk hr0_1; have HC0_1 := Aside0.mk hc0_1; clear hr0_1 hc0_1; have HB := Aside0.mk (Below.refl w.heap.size w); have H : (if (l0_0.length : Int) = 512 then (if (l0_1.length : Int) ≤ 400 then ((slices_ContainsFunc_88_g89.f k l0_0).bind fun t102 => (if t102 = true then (some false) else ((slices_ContainsFunc_90_g91.f k l0_1).bind fun t103 => (some (!t103))))) else (some false)) else (some false)) = some r := h; clear h; by_cases c2 : (l0_0.length : Int) = 512
 ·
  rw [if_pos c2] at H; obtain ⟨c2b0, c2b1⟩ := eT c2; clear c2; by_cases c3 : (l0_1.length : Int) ≤ 400
  ·
   rw [if_pos c3] at H; have c3b0 : decide ((l0_1.length : Int) ≤ 400) = true := decide_eq_true c3; have c3b1 : decide (l0_1.length ≤ 400) = true := decide_eq_true (by omega); clear c3; obtain ⟨t102, A40, H⟩ := bE H; have A4 := Aside0.mk A40; clear A40; by_cases c5 : t102 = true
   ·
    subst c5; replace H := iT H; obtain rfl := Option.some.inj H; go_enter Try.func52, Try.ntmps52; go_wp2_with (first | ((with_reducible refine gate_dst (N := 1) rfl ?_); (try (refine gate_guard (by rfl) ?_; dsimp only)); refine boxE (w := w) oL (cs := #[.slice A0_0 l0_0.length c0_0, .slice A0_1 l0_1.length c0_1]) (t := 35) ?_; clear HB; intro gb101 w6 HB BK101 GW101; have GE101 := GW101; obtain ⟨hcz7_0, hcz7_1⟩ := cz2 BK101.out; obtain ⟨hfz7_0, hfz7_1⟩ := fz2 BK101.out) | (go_at_call 88; (with_reducible refine (slices_ContainsFunc_88_g89.calls k _ _ l0_0 true _ ?side1 ?side2 A4.out).mono ?_); (case side1 => exact oC HR0_0.out); (case side2 => exact HC0_0.out); rintro e w' ⟨rfl, ⟨nd, rfl⟩⟩))
    go_ret; exact ⟨oE, oL⟩
   ·
    replace c5 := Bool.eq_false_iff.mpr c5; subst c5; replace H := iF H; obtain ⟨t103, A80, H⟩ := bE H; have A8 := Aside0.mk A80; clear A80; obtain rfl := Option.some.inj H; go_enter Try.func52, Try.ntmps52; go_wp2_with (first | ((with_reducible refine gate_dst (N := 1) rfl ?_); (try (refine gate_guard (by rfl) ?_; dsimp only)); refine boxE (w := w) oL (cs := #[.slice A0_0 l0_0.length c0_0, .slice A0_1 l0_1.length c0_1]) (t := 35) ?_; clear HB; intro gb101 w9 HB BK101 GW101; have GE101 := GW101; obtain ⟨hcz10_0, hcz10_1⟩ := cz2 BK101.out; obtain ⟨hfz10_0, hfz10_1⟩ := fz2 BK101.out) | (go_at_call 88; (with_reducible refine (slices_ContainsFunc_88_g89.calls k _ _ l0_0 false _ ?side1 ?side2 A4.out).mono ?_); (case side1 => exact oC HR0_0.out); (case side2 => exact HC0_0.out); rintro e w' ⟨rfl, ⟨nd, rfl⟩⟩) | (go_at_call 90; (with_reducible refine (slices_ContainsFunc_90_g91.calls k _ _ l0_1 t103 _ ?side1 ?side2 A8.out).mono ?_); (case side1 => repeat (first | exact (Kd.C_below HR0_1.out oL) | (with_reducible refine Kd.C_alloc ?_ _) | (with_reducible refine Kd.C_drewN ?_ _) | (with_reducible refine Kd.C_drew ?_))); (case side2 => exact HC0_1.out); rintro e w11 ⟨rfl, hb⟩; have n0_ := Aside0.mk (blk_below (oB BK101.out) hb); have n1_ := Aside0.mk (below_step oL hb); clear BK101; clear HB; have BK101 := n0_; have HB := n1_; clear n0_ n1_; (try clear hb); (try clear hb2); (try clear hk); (try clear hi)))
    go_ret; exact ⟨oE, oL⟩
  ·
   rw [if_neg c3] at H; have c3b0 : decide ((l0_1.length : Int) ≤ 400) = false := decide_eq_false c3; have c3b1 : decide (l0_1.length ≤ 400) = false := decide_eq_false (by omega); clear c3; obtain rfl := Option.some.inj H; go_enter Try.func52, Try.ntmps52; go_wp2_with (first | ((with_reducible refine gate_dst (N := 1) rfl ?_); (try (refine gate_guard (by rfl) ?_; dsimp only)); refine boxE (w := w) oL (cs := #[.slice A0_0 l0_0.length c0_0, .slice A0_1 l0_1.length c0_1]) (t := 35) ?_; clear HB; intro gb101 w12 HB BK101 GW101; have GE101 := GW101; obtain ⟨hcz13_0, hcz13_1⟩ := cz2 BK101.out; obtain ⟨hfz13_0, hfz13_1⟩ := fz2 BK101.out))
   go_ret; exact ⟨oE, oL⟩
 ·
  rw [if_neg c2] at H; obtain ⟨c2b0, c2b1⟩ := eF c2; obtain rfl := Option.some.inj H; go_enter Try.func52, Try.ntmps52; go_wp2_with (first | ((with_reducible refine gate_dst (N := 1) rfl ?_); (try (refine gate_guard (by rfl) ?_; dsimp only)); refine boxE (w := w) oL (cs := #[.slice A0_0 l0_0.length c0_0, .slice A0_1 l0_1.length c0_1]) (t := 35) ?_; clear HB; intro gb101 w14 HB BK101 GW101; have GE101 := GW101; obtain ⟨hcz15_0, hcz15_1⟩ := cz2 BK101.out; obtain ⟨hfz15_0, hfz15_1⟩ := fz2 BK101.out))
  go_ret; exact ⟨oE, oL⟩

/-! ### impl_GoodCpu: function 17 -/
def impl_GoodCpu.f (k : Nat) (l0_0 : List Int) (l0_1 : List Int) (a0_2 : Int) (a0_3 : Int) (a0_4 : Int) (a0_5 : Int) (a0_6 : Bool) (a0_7 : Bool) (l0_8 : List Int) (l0_9 : List (S75)) (a0_10 : Bool) (a0_11 : Bool) : Option (Bool) := (impl_GoodRegs.f k l0_0 l0_1 a0_2 a0_3 a0_4 a0_5 a0_6 a0_7).bind fun t102 => (if t102 = true then ((impl_GoodBus.f k l0_8 l0_9).bind fun t103 => (if t103 = true then (if a0_10 = true then (some (!a0_11)) else (some (!false))) else (some false))) else (some false))
theorem impl_GoodCpu.mono : ∀ a0 a1 a2 a3 a4 a5 a6 a7 a8 a9 a10 a11 k, LeO (impl_GoodCpu.f k a0 a1 a2 a3 a4 a5 a6 a7 a8 a9 a10 a11) (impl_GoodCpu.f (k + 1) a0 a1 a2 a3 a4 a5 a6 a7 a8 a9 a10 a11) := by
 intro a0 a1 a2 a3 a4 a5 a6 a7 a8 a9 a10 a11 k
 unfold impl_GoodCpu.f
 repeat' first
   | (with_reducible exact impl_GoodBus.mono _ _ _)
   | (with_reducible exact impl_GoodRegs.mono _ _ _ _ _ _ _ _ _)
   | (with_reducible exact LeO.refl _)
   | (with_reducible exact LeO.none _)
   | (with_reducible refine LeO.ite ?_ ?_)
   | (with_reducible refine LeO.bind ?_ (fun _ => ?_))
   | exact impl_GoodBus.mono _ _ _
   | exact impl_GoodRegs.mono _ _ _ _ _ _ _ _ _
   | exact LeO.none _
   | refine LeO.ite ?_ ?_
   | refine LeO.bind ?_ (fun _ => ?_)
set_option maxHeartbeats 8000000 in
set_option maxRecDepth 100000 in
theorem impl_GoodCpu.calls (k : Nat) (A0_0 : Option Addr) (c0_0 : Nat) (l0_0 : List Int) (A0_1 : Option Addr) (c0_1 : Nat) (l0_1 : List Int) (a0_2 : Int) (a0_3 : Int) (a0_4 : Int) (a0_5 : Int) (a0_6 : Bool) (a0_7 : Bool) (A0_8 : Option Addr) (c0_8 : Nat) (l0_8 : List Int) (A0_9 : Option Addr) (c0_9 : Nat) (l0_9 : List (S75)) (a0_10 : Bool) (a0_11 : Bool) (r : Bool) (w : World) (hr0_0 : Kd.C (Kd.int .i64) w A0_0 l0_0.length l0_0) (hc0_0 : l0_0.length ≤ c0_0) (hr0_1 : Kd.C (Kd.int .i64) w A0_1 l0_1.length l0_1) (hc0_1 : l0_1.length ≤ c0_1) (hr0_8 : Kd.C (Kd.int .i64) w A0_8 l0_8.length l0_8) (hc0_8 : l0_8.length ≤ c0_8) (hr0_9 : Kd.C k75 w A0_9 l0_9.length l0_9) (hc0_9 : l0_9.length ≤ c0_9) (h : impl_GoodCpu.f k l0_0 l0_1 a0_2 a0_3 a0_4 a0_5 a0_6 a0_7 l0_8 l0_9 a0_10 a0_11 = some r) :
  Calls Try.prog 17 #[.agg #[.slice A0_0 l0_0.length c0_0, .slice A0_1 l0_1.length c0_1, .int .i64 a0_2, .int .i64 a0_3, .int .i64 a0_4, .int .i64 a0_5, .bool a0_6, .bool a0_7, .slice A0_8 l0_8.length c0_8, .slice A0_9 l0_9.length c0_9, .bool a0_10, .bool a0_11]] w fun e w' => e = .returned (.bool r) ∧ Below w.heap.size w w' := by
 have hu37 := Try.underlying37; have hu32 := Try.underlying32; have hu35 := Try.underlying35; have HR0_0 := Aside0.mk hr0_0; have HC0_0 := Aside0.mk hc0_0; clear hr0_0 hc0_0; have HR0_1 := Aside0.mk hr0_1; have HC0_1 := Aside0.mk hc0_1; clear hr0_1 hc0_1; have HR0_8 := Aside0.mk hr0_8; have HC0_8 := Aside0.mk hc0_8; clear hr0_8 hc0_8; have HR0_9 := Aside0.mk hr0_9; have HC0_9 := Aside0.mk hc0_9; clear hr0_9 hc0_9; have HB := Aside0.mk (Below.refl w.heap.size w); have H : ((impl_GoodRegs.f k l0_0 l0_1 a0_2 a0_3 a0_4 a0_5 a0_6 a0_7).bind fun t102 => (if t102 = true then ((impl_GoodBus.f k l0_8 l0_9).bind fun t103 => (if t103 = true then (if a0_10 = true then (some (!a0_11)) else (some (!false))) else (some false))) else (some false))) = some r := h; clear h; obtain ⟨t102, A20, H⟩ := bE H; have A2 := Aside0.mk A20; clear A20; by_cases c3 : t102 = true
 ·
  subst c3; replace H := iT H; obtain ⟨t103, A40, H⟩ := bE H; have A4 := Aside0.mk A40; clear A40; by_cases c5 : t103 = true
  ·
   subst c5; replace H := iT H; by_cases c6 : a0_10 = true
   ·
    subst c6; replace H := iT H; obtain rfl := Option.some.inj H; go_enter Try.func17, Try.ntmps17; go_wp2_with (first | ((with_reducible refine gate_dst (N := 1) rfl ?_); refine boxE (w := w) oL (cs := #[.slice A0_0 l0_0.length c0_0, .slice A0_1 l0_1.length c0_1, .int .i64 a0_2, .int .i64 a0_3, .int .i64 a0_4, .int .i64 a0_5, .bool a0_6, .bool a0_7, .slice A0_8 l0_8.length c0_8, .slice A0_9 l0_9.length c0_9, .bool true, .bool a0_11]) (t := 37) ?_; clear HB; intro gb101 w7 HB BK101 GW101; have GE101 := GW101; obtain ⟨hcz8_0, hcz8_1, hcz8_2, hcz8_3, hcz8_4, hcz8_5, hcz8_6, hcz8_7, hcz8_8, hcz8_9, hcz8_10, hcz8_11⟩ := cz12 BK101.out; obtain ⟨hfz8_0, hfz8_1, hfz8_2, hfz8_3, hfz8_4, hfz8_5, hfz8_6, hfz8_7, hfz8_8, hfz8_9, hfz8_10, hfz8_11⟩ := fz12 BK101.out) | ((with_reducible refine gate_callee (f := 51) rfl ?_); refine goesL_ (some 5) rfl rfl Try.func51 (by kernel_rfl) rfl #[.agg #[.slice A0_0 l0_0.length c0_0, .slice A0_1 l0_1.length c0_1, .int .i64 a0_2, .int .i64 a0_3, .int .i64 a0_4, .int .i64 a0_5, .bool a0_6, .bool a0_7]] rfl (by (try simp only [List.map_toArray, List.map_cons, List.map_nil]); first | done | rfl | (simp only [List.length_drop, List.length_take]; rfl)) ?_; (with_reducible refine (impl_GoodRegs.calls k _ _ l0_0 _ _ l0_1 a0_2 a0_3 a0_4 a0_5 a0_6 a0_7 true _ ?side1 ?side2 ?side3 ?side4 A2.out).mono ?_); (case side1 => exact oC HR0_0.out); (case side2 => exact HC0_0.out); (case side3 => exact oC HR0_1.out); (case side4 => exact HC0_1.out); rintro e w9 ⟨rfl, hb⟩; refine ⟨_, rfl, ?_⟩; have n0_ := Aside0.mk (blk_below (oB BK101.out) hb); have n1_ := Aside0.mk (below_step oL hb); clear BK101; clear HB; have BK101 := n0_; have HB := n1_; clear n0_ n1_; (try clear hb); (try clear hb2); (try clear hk); (try clear hi); obtain ⟨hcz10_0, hcz10_1, hcz10_2, hcz10_3, hcz10_4, hcz10_5, hcz10_6, hcz10_7, hcz10_8, hcz10_9, hcz10_10, hcz10_11⟩ := cz12 BK101.out; obtain ⟨hfz10_0, hfz10_1, hfz10_2, hfz10_3, hfz10_4, hfz10_5, hfz10_6, hfz10_7, hfz10_8, hfz10_9, hfz10_10, hfz10_11⟩ := fz12 BK101.out) | (go_at_call 52; (with_reducible refine (impl_GoodBus.calls k _ _ l0_8 _ _ l0_9 true _ ?side1 ?side2 ?side3 ?side4 A4.out).mono ?_); (case side1 => exact oC HR0_8.out); (case side2 => exact HC0_8.out); (case side3 => exact oC HR0_9.out); (case side4 => exact HC0_9.out); rintro e w11 ⟨rfl, hb⟩; have n0_ := Aside0.mk (blk_below (oB BK101.out) hb); have n1_ := Aside0.mk (below_step oL hb); clear BK101; clear HB; have BK101 := n0_; have HB := n1_; clear n0_ n1_; (try clear hb); (try clear hb2); (try clear hk); (try clear hi); obtain ⟨hcz12_0, hcz12_1, hcz12_2, hcz12_3, hcz12_4, hcz12_5, hcz12_6, hcz12_7, hcz12_8, hcz12_9, hcz12_10, hcz12_11⟩ := cz12 BK101.out; obtain ⟨hfz12_0, hfz12_1, hfz12_2, hfz12_3, hfz12_4, hfz12_5, hfz12_6, hfz12_7, hfz12_8, hfz12_9, hfz12_10, hfz12_11⟩ := fz12 BK101.out))
    go_ret; exact ⟨oE, oL⟩
   ·
    replace c6 := Bool.eq_false_iff.mpr c6; subst c6; replace H := iF H; obtain rfl := Option.some.inj H; go_enter Try.func17, Try.ntmps17; go_wp2_with (first | ((with_reducible refine gate_dst (N := 1) rfl ?_); refine boxE (w := w) oL (cs := #[.slice A0_0 l0_0.length c0_0, .slice A0_1 l0_1.length c0_1, .int .i64 a0_2, .int .i64 a0_3, .int .i64 a0_4, .int .i64 a0_5, .bool a0_6, .bool a0_7, .slice A0_8 l0_8.length c0_8, .slice A0_9 l0_9.length c0_9, .bool false, .bool a0_11]) (t := 37) ?_; clear HB; intro gb101 w13 HB BK101 GW101; have GE101 := GW101; obtain ⟨hcz14_0, hcz14_1, hcz14_2, hcz14_3, hcz14_4, hcz14_5, hcz14_6, hcz14_7, hcz14_8, hcz14_9, hcz14_10, hcz14_11⟩ := cz12 BK101.out; obtain ⟨hfz14_0, hfz14_1, hfz14_2, hfz14_3, hfz14_4, hfz14_5, hfz14_6, hfz14_7, hfz14_8, hfz14_9, hfz14_10, hfz14_11⟩ := fz12 BK101.out) | ((with_reducible refine gate_callee (f := 51) rfl ?_); refine goesL_ (some 5) rfl rfl Try.func51 (by kernel_rfl) rfl #[.agg #[.slice A0_0 l0_0.length c0_0, .slice A0_1 l0_1.length c0_1, .int .i64 a0_2, .int .i64 a0_3, .int .i64 a0_4, .int .i64 a0_5, .bool a0_6, .bool a0_7]] rfl (by (try simp only [List.map_toArray, List.map_cons, List.map_nil]); first | done | rfl | (simp only [List.length_drop, List.length_take]; rfl)) ?_; (with_reducible refine (impl_GoodRegs.calls k _ _ l0_0 _ _ l0_1 a0_2 a0_3 a0_4 a0_5 a0_6 a0_7 true _ ?side1 ?side2 ?side3 ?side4 A2.out).mono ?_); (case side1 => exact oC HR0_0.out); (case side2 => exact HC0_0.out); (case side3 => exact oC HR0_1.out); (case side4 => exact HC0_1.out); rintro e w15 ⟨rfl, hb⟩; refine ⟨_, rfl, ?_⟩; have n0_ := Aside0.mk (blk_below (oB BK101.out) hb); have n1_ := Aside0.mk (below_step oL hb); clear BK101; clear HB; have BK101 := n0_; have HB := n1_; clear n0_ n1_; (try clear hb); (try clear hb2); (try clear hk); (try clear hi); obtain ⟨hcz16_0, hcz16_1, hcz16_2, hcz16_3, hcz16_4, hcz16_5, hcz16_6, hcz16_7, hcz16_8, hcz16_9, hcz16_10, hcz16_11⟩ := cz12 BK101.out; obtain ⟨hfz16_0, hfz16_1, hfz16_2, hfz16_3, hfz16_4, hfz16_5, hfz16_6, hfz16_7, hfz16_8, hfz16_9, hfz16_10, hfz16_11⟩ := fz12 BK101.out) | (go_at_call 52; (with_reducible refine (impl_GoodBus.calls k _ _ l0_8 _ _ l0_9 true _ ?side1 ?side2 ?side3 ?side4 A4.out).mono ?_); (case side1 => exact oC HR0_8.out); (case side2 => exact HC0_8.out); (case side3 => exact oC HR0_9.out); (case side4 => exact HC0_9.out); rintro e w17 ⟨rfl, hb⟩; have n0_ := Aside0.mk (blk_below (oB BK101.out) hb); have n1_ := Aside0.mk (below_step oL hb); clear BK101; clear HB; have BK101 := n0_; have HB := n1_; clear n0_ n1_; (try clear hb); (try clear hb2); (try clear hk); (try clear hi); obtain ⟨hcz18_0, hcz18_1, hcz18_2, hcz18_3, hcz18_4, hcz18_5, hcz18_6, hcz18_7, hcz18_8, hcz18_9, hcz18_10, hcz18_11⟩ := cz12 BK101.out; obtain ⟨hfz18_0, hfz18_1, hfz18_2, hfz18_3, hfz18_4, hfz18_5, hfz18_6, hfz18_7, hfz18_8, hfz18_9, hfz18_10, hfz18_11⟩ := fz12 BK101.out))
    go_ret; exact ⟨oE, oL⟩
  ·
   replace c5 := Bool.eq_false_iff.mpr c5; subst c5; replace H := iF H; obtain rfl := Option.some.inj H; go_enter Try.func17, Try.ntmps17; go_wp2_with (first | ((with_reducible refine gate_dst (N := 1) rfl ?_); refine boxE (w := w) oL (cs := #[.slice A0_0 l0_0.length c0_0, .slice A0_1 l0_1.length c0_1, .int .i64 a0_2, .int .i64 a0_3, .int .i64 a0_4, .int .i64 a0_5, .bool a0_6, .bool a0_7, .slice A0_8 l0_8.length c0_8, .slice A0_9 l0_9.length c0_9, .bool a0_10, .bool a0_11]) (t := 37) ?_; clear HB; intro gb101 w19 HB BK101 GW101; have GE101 := GW101; obtain ⟨hcz20_0, hcz20_1, hcz20_2, hcz20_3, hcz20_4, hcz20_5, hcz20_6, hcz20_7, hcz20_8, hcz20_9, hcz20_10, hcz20_11⟩ := cz12 BK101.out; obtain ⟨hfz20_0, hfz20_1, hfz20_2, hfz20_3, hfz20_4, hfz20_5, hfz20_6, hfz20_7, hfz20_8, hfz20_9, hfz20_10, hfz20_11⟩ := fz12 BK101.out) | ((with_reducible refine gate_callee (f := 51) rfl ?_); refine goesL_ (some 5) rfl rfl Try.func51 (by kernel_rfl) rfl #[.agg #[.slice A0_0 l0_0.length c0_0, .slice A0_1 l0_1.length c0_1, .int .i64 a0_2, .int .i64 a0_3, .int .i64 a0_4, .int .i64 a0_5, .bool a0_6, .bool a0_7]] rfl (by (try simp only [List.map_toArray, List.map_cons, List.map_nil]); first | done | rfl | (simp only [List.length_drop, List.length_take]; rfl)) ?_; (with_reducible refine (impl_GoodRegs.calls k _ _ l0_0 _ _ l0_1 a0_2 a0_3 a0_4 a0_5 a0_6 a0_7 true _ ?side1 ?side2 ?side3 ?side4 A2.out).mono ?_); (case side1 => exact oC HR0_0.out); (case side2 => exact HC0_0.out); (case side3 => exact oC HR0_1.out); (case side4 => exact HC0_1.out); rintro e w21 ⟨rfl, hb⟩; refine ⟨_, rfl, ?_⟩; have n0_ := Aside0.mk (blk_below (oB BK101.out) hb); have n1_ := Aside0.mk (below_step oL hb); clear BK101; clear HB; have BK101 := n0_; have HB := n1_; clear n0_ n1_; (try clear hb); (try clear hb2); (try clear hk); (try clear hi); obtain ⟨hcz22_0, hcz22_1, hcz22_2, hcz22_3, hcz22_4, hcz22_5, hcz22_6, hcz22_7, hcz22_8, hcz22_9, hcz22_10, hcz22_11⟩ := cz12 BK101.out; obtain ⟨hfz22_0, hfz22_1, hfz22_2, hfz22_3, hfz22_4, hfz22_5, hfz22_6, hfz22_7, hfz22_8, hfz22_9, hfz22_10, hfz22_11⟩ := fz12 BK101.out) | (go_at_call 52; (with_reducible refine (impl_GoodBus.calls k _ _ l0_8 _ _ l0_9 false _ ?side1 ?side2 ?side3 ?side4 A4.out).mono ?_); (case side1 => exact oC HR0_8.out); (case side2 => exact HC0_8.out); (case side3 => exact oC HR0_9.out); (case side4 => exact HC0_9.out); rintro e w23 ⟨rfl, hb⟩; have n0_ := Aside0.mk (blk_below (oB BK101.out) hb); have n1_ := Aside0.mk (below_step oL hb); clear BK101; clear HB; have BK101 := n0_; have HB := n1_; clear n0_ n1_; (try clear hb); (try clear hb2); (try clear hk); (try clear hi)))
   go_ret; exact ⟨oE, oL⟩
 ·
  replace c3 := Bool.eq_false_iff.mpr c3; subst c3; replace H := iF H; obtain rfl := Option.some.inj H; go_enter Try.func17, Try.ntmps17; go_wp2_with (first | ((with_reducible refine gate_dst (N := 1) rfl ?_); refine boxE (w := w) oL (cs := #[.slice A0_0 l0_0.length c0_0, .slice A0_1 l0_1.length c0_1, .int .i64 a0_2, .int .i64 a0_3, .int .i64 a0_4, .int .i64 a0_5, .bool a0_6, .bool a0_7, .slice A0_8 l0_8.length c0_8, .slice A0_9 l0_9.length c0_9, .bool a0_10, .bool a0_11]) (t := 37) ?_; clear HB; intro gb101 w24 HB BK101 GW101; have GE101 := GW101; obtain ⟨hcz25_0, hcz25_1, hcz25_2, hcz25_3, hcz25_4, hcz25_5, hcz25_6, hcz25_7, hcz25_8, hcz25_9, hcz25_10, hcz25_11⟩ := cz12 BK101.out; obtain ⟨hfz25_0, hfz25_1, hfz25_2, hfz25_3, hfz25_4, hfz25_5, hfz25_6, hfz25_7, hfz25_8, hfz25_9, hfz25_10, hfz25_11⟩ := fz12 BK101.out) | ((with_reducible refine gate_callee (f := 51) rfl ?_); refine goesL_ (some 5) rfl rfl Try.func51 (by kernel_rfl) rfl #[.agg #[.slice A0_0 l0_0.length c0_0, .slice A0_1 l0_1.length c0_1, .int .i64 a0_2, .int .i64 a0_3, .int .i64 a0_4, .int .i64 a0_5, .bool a0_6, .bool a0_7]] rfl (by (try simp only [List.map_toArray, List.map_cons, List.map_nil]); first | done | rfl | (simp only [List.length_drop, List.length_take]; rfl)) ?_; (with_reducible refine (impl_GoodRegs.calls k _ _ l0_0 _ _ l0_1 a0_2 a0_3 a0_4 a0_5 a0_6 a0_7 false _ ?side1 ?side2 ?side3 ?side4 A2.out).mono ?_); (case side1 => exact oC HR0_0.out); (case side2 => exact HC0_0.out); (case side3 => exact oC HR0_1.out); (case side4 => exact HC0_1.out); rintro e w26 ⟨rfl, hb⟩; refine ⟨_, rfl, ?_⟩; have n0_ := Aside0.mk (blk_below (oB BK101.out) hb); have n1_ := Aside0.mk (below_step oL hb); clear BK101; clear HB; have BK101 := n0_; have HB := n1_; clear n0_ n1_; (try clear hb); (try clear hb2); (try clear hk); (try clear hi)))
  go_ret; exact ⟨oE, oL⟩

/-! ### slices_Clone_int_int: function 116 -/
def slices_Clone_int_int.f (l0 : List Int) : Option (List Int) := (some (([] : List Int) : List Int)).bind fun y101 => (if y101.length + l0.length < 17592186044416 then (some (y101 ++ l0)) else (none))
set_option maxHeartbeats 8000000 in
set_option maxRecDepth 100000 in
theorem slices_Clone_int_int.calls (A0 : Option Addr) (c0 : Nat) (l0 : List Int) (r : List Int) (w : World) (hr0 : Kd.C (Kd.int .i64) w A0 l0.length l0) (hc0 : l0.length ≤ c0) (h : slices_Clone_int_int.f l0 = some r) :
  Calls Try.prog 116 #[.slice A0 l0.length c0] w fun e w' => ∃ v0_ : Value, e = .returned (v0_) ∧ Kd.R (Kd.int .i64) 3 w' w.heap.size (fun _ => True) v0_ r ∧ Below w.heap.size w w' := by
 have HR0 := Aside0.mk hr0; have HC0 := Aside0.mk hc0; clear hr0 hc0; have HB := Aside0.mk (Below.refl w.heap.size w); have H : ((some (([] : List Int) : List Int)).bind fun y101 => (if y101.length + l0.length < 17592186044416 then (some (y101 ++ l0)) else (none))) = some r := h; clear h; obtain ⟨y101, hy101⟩ : ∃ y_ : List Int, y_ = (([] : List Int)) := ⟨_, rfl⟩; replace H : (if y101.length + l0.length < 17592186044416 then (some (y101 ++ l0)) else (none)) = some r := by first | (rw [hy101]; with_reducible exact H) | (have H2_ := (Option.bind_some _ _).symm.trans H; rw [hy101]; with_reducible exact H2_) | (have H2_ := (Option.bind_some _ _).symm.trans H; with_reducible exact H2_) | with_reducible exact H | (rw [hy101]; exact H) | exact H
 have Ny101 := Aside0.mk hy101; clear hy101; by_cases c2 : y101.length + l0.length < 17592186044416
 ·
  rw [if_pos c2] at H; have LMc2 := Aside0.mk c2; clear c2; obtain ⟨y104, hy104⟩ : ∃ y_ : List Int, y_ = (y101 ++ l0) := ⟨_, rfl⟩; replace H : (some y104) = some r := by first | (rw [hy104]; with_reducible exact H) | (have H2_ := (Option.bind_some _ _).symm.trans H; rw [hy104]; with_reducible exact H2_) | (have H2_ := (Option.bind_some _ _).symm.trans H; with_reducible exact H2_) | with_reducible exact H | (rw [hy104]; exact H) | exact H
  have Ny104 := Aside0.mk hy104; clear hy104; obtain rfl := Option.some.inj H; cases A0 with
  | none =>
   have hl0 : l0 = [] := List.eq_nil_of_length_eq_zero (Nat.eq_zero_of_not_pos fun hp => by obtain ⟨ad, e, _⟩ := HR0.out.2.2 hp; cases e); have hz : y104 = [] := by rw [Ny104.out, Ny101.out, hl0]; rfl
   have HZ := Aside0.mk hz; clear hz hl0; have heq := fun W => Lib.run_eql_slice_nil (P := Try.prog) W 22 3 none l0.length c0 0 0 Try.underlying22
   go_enter Try.func116, Try.ntmps116; go_wp2; go_ret; exact ⟨_, rfl, by rw [HZ.out]; exact Kd.R_nil _ _ _ _ _, Below.refl _ _⟩
  | some ad =>
   have heq := fun W => Lib.run_eql_slice_nil (P := Try.prog) W 22 3 (some ad) l0.length c0 0 0 Try.underlying22
   go_enter Try.func116, Try.ntmps116; go_wp2_with (first | ((with_reducible refine gate_dst (N := 5) rfl ?_); refine Kd.R_lit (Kd.int .i64) _ 3 ?hg (N := 5) ?hd (xs := ([] : List Int)) (inner := []) (ok := fun _ => True) (okp := fun _ => True) ?hr ?hp (fun _ hk => hk) trivial (Below.refl _ _) (Nat.le_refl _) (by simp) ?_; (case hd => rfl); (case hg => rfl); (case hr => first | (go_simp; done) | (go_simp; rfl)); (case hp => exact (Reps.none _ _)); intro v102 w3 ho4 hb hg_ hnew_; clear hg_ hnew_; (first | rw [← Ny101.out] at ho4 | (simp only [Int.reduceToNat] at ho4; rw [← Ny101.out] at ho4)); have n0_ := Aside0.mk (Kd.R_lower ho4 (below_size oL)); have n1_ := Aside0.mk (below_step oL hb); clear HB; have HO103 := n0_; have HB := n1_; clear n0_ n1_; clear hb ho4) | ((with_reducible refine gate_builtin (b := .append) (xs := #[.tmp 5, .tmp 6]) rfl ?_); at_builtin; refine Kd.R_append_rows (Kd.int .i64) (w0 := w) w.heap.size rfl (.tmp 5) (.tmp 6) 22 3 (.int .i64 0) 8 rfl Try.underlying22 info3 rfl (by decide) (by omega) v102 y101 l0 _ _ _ (fun _ => True) (fun _ => False) rfl rfl ?aO ?aR (fun _ _ h => h) (fun _ h => h.elim) ?aF ?aB ?aS ?aL ?_; (case aR => repeat (first | exact (Kd.C_below HR0.out HB.out) | (with_reducible refine Kd.C_alloc ?_ _) | (with_reducible refine Kd.C_drewN ?_ _) | (with_reducible refine Kd.C_drew ?_))); (case aB => exact oL); (case aF => exact (fun _ _ => trivial)); (case aO => exact (oR HO103.out)); (case aS => exact (below_size oL)); (case aL => have := LMc2.out; omega); intro v105 w5 ho hb hg hat; rw [← Ny104.out] at ho; have n0_ := Aside0.mk (hb); have n1_ := Aside0.mk (ho); clear HB; clear HO103; have HB := n0_; have HO106 := n1_; clear n0_ n1_; clear ho hb hg hat))
   go_ret; exact ⟨_, oE, by (with_reducible repeat (first | apply Kd.R_alloc | apply Kd.R_drewN | apply Kd.R_drew)); exact HO106.out, oL⟩
 · rw [if_neg c2] at H; exact absurd H (by simp)

end Go.Proofs.Ytlebikjghlaooaa.Q
