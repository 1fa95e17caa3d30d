-- Made by this session's program gprint.py out of the translation. Not trusted: Lean checks it.
import Derived.Test.YtodmelfgkhebjaaUx0
namespace Go.Proofs.Ytodmelfgkhebjaa.U
open Go.RowKit Go.Proofs.YtodmelfgkhebjaaW.PrintWords Go.Proofs.YtodmelfgkhebjaaW.PrintLast Go.Proofs.YtodmelfgkhebjaaW.PrintMore
attribute [local go_sem] max2_int min2_int max_two min_two max_three min_three max_four min_four   -- for this text's walks alone
set_option linter.unusedVariables false
set_option linter.unusedSimpArgs false

/-! ### laws_szIntS: function 53 -/
def laws_szIntS.f (l0 : List Int) (a1 : Int) : Option (Int) := if (wrap64 (a1 - (l0.length : Int))) < 0 then (some (-1)) else (some (wrap64 (a1 - (l0.length : Int))))
set_option maxHeartbeats 8000000 in
set_option maxRecDepth 100000 in
theorem laws_szIntS.calls (A0 : Option Addr) (c0 : Nat) (l0 : List Int) (a1 : Int) (r : Int) (w : World) (hr0 : Kd.C (Kd.int .i64) w A0 l0.length l0) (hc0 : l0.length ≤ c0) (h : laws_szIntS.f l0 a1 = some r) :
  Calls Try.prog 53 #[.slice A0 l0.length c0, .int .i64 a1] w fun e w' => e = .returned (.int .i64 r) ∧ Drawn0 w w' := by
 have HR0 := Aside0.mk hr0; have HC0 := Aside0.mk hc0; clear hr0 hc0; have H : (if (wrap64 (a1 - (l0.length : Int))) < 0 then (some (-1)) else (some (wrap64 (a1 - (l0.length : Int))))) = some r := h; clear h; by_cases c3 : (wrap64 (a1 - (l0.length : Int))) < 0
 · rw [if_pos c3] at H; have c3b0 : decide ((wrap64 (a1 - (l0.length : Int))) < 0) = true := decide_eq_true c3; clear c3; obtain rfl := Option.some.inj H; go_enter Try.func53, Try.ntmps53; go_wp2; go_ret; exact ⟨by first | rfl | (simp; done) | (simp [*]; done), by repeat (first | exact Drawn0.refl _ | apply Drawn0.step)⟩
 · rw [if_neg c3] at H; have c3b0 : decide ((wrap64 (a1 - (l0.length : Int))) < 0) = false := decide_eq_false c3; clear c3; obtain rfl := Option.some.inj H; go_enter Try.func53, Try.ntmps53; go_wp2; go_ret; exact ⟨by first | rfl | (simp; done) | (simp [*]; done), by repeat (first | exact Drawn0.refl _ | apply Drawn0.step)⟩

/-! ### laws_szAccessS: function 54 -/
def laws_szAccessS.f (l0 : List (S115)) (a1 : Int) : Option (Int) := if (wrap64 (a1 - (l0.length : Int))) < 0 then (some (-1)) else (some (wrap64 (a1 - (l0.length : Int))))
set_option maxHeartbeats 8000000 in
set_option maxRecDepth 100000 in
theorem laws_szAccessS.calls (A0 : Option Addr) (c0 : Nat) (l0 : List (S115)) (a1 : Int) (r : Int) (w : World) (hr0 : Kd.C k115 w A0 l0.length l0) (hc0 : l0.length ≤ c0) (h : laws_szAccessS.f l0 a1 = some r) :
  Calls Try.prog 54 #[.slice A0 l0.length c0, .int .i64 a1] w fun e w' => e = .returned (.int .i64 r) ∧ Drawn0 w w' := by
 have HR0 := Aside0.mk hr0; have HC0 := Aside0.mk hc0; clear hr0 hc0; have H : (if (wrap64 (a1 - (l0.length : Int))) < 0 then (some (-1)) else (some (wrap64 (a1 - (l0.length : Int))))) = some r := h; clear h; by_cases c3 : (wrap64 (a1 - (l0.length : Int))) < 0
 · rw [if_pos c3] at H; have c3b0 : decide ((wrap64 (a1 - (l0.length : Int))) < 0) = true := decide_eq_true c3; clear c3; obtain rfl := Option.some.inj H; go_enter Try.func54, Try.ntmps54; go_wp2; go_ret; exact ⟨by first | rfl | (simp; done) | (simp [*]; done), by repeat (first | exact Drawn0.refl _ | apply Drawn0.step)⟩
 · rw [if_neg c3] at H; have c3b0 : decide ((wrap64 (a1 - (l0.length : Int))) < 0) = false := decide_eq_false c3; clear c3; obtain rfl := Option.some.inj H; go_enter Try.func54, Try.ntmps54; go_wp2; go_ret; exact ⟨by first | rfl | (simp; done) | (simp [*]; done), by repeat (first | exact Drawn0.refl _ | apply Drawn0.step)⟩

/-! ### laws_szBus: function 23 -/
def laws_szBus.f (l0_0 : List Int) (l0_1 : List (S115)) (a1 : Int) : Option (Int) := (laws_szIntS.f l0_0 a1).bind fun t102 => (if t102 < 0 then (some (-1)) else ((laws_szAccessS.f l0_1 t102).bind fun t103 => (if t103 < 0 then (some (-1)) else (some t103))))
set_option maxHeartbeats 8000000 in
set_option maxRecDepth 100000 in
theorem laws_szBus.calls (A0_0 : Option Addr) (c0_0 : Nat) (l0_0 : List Int) (A0_1 : Option Addr) (c0_1 : Nat) (l0_1 : List (S115)) (a1 : Int) (r : Int) (w : World) (hr0_0 : Kd.C (Kd.int .i64) w A0_0 l0_0.length l0_0) (hc0_0 : l0_0.length ≤ c0_0) (hr0_1 : Kd.C k115 w A0_1 l0_1.length l0_1) (hc0_1 : l0_1.length ≤ c0_1) (h : laws_szBus.f l0_0 l0_1 a1 = some r) :
  Calls Try.prog 23 #[.agg #[.slice A0_0 l0_0.length c0_0, .slice A0_1 l0_1.length c0_1], .int .i64 a1] w fun e w' => e = .returned (.int .i64 r) ∧ Below w.heap.size w w' := by
 have hu41 := Try.underlying41; have HR0_0 := Aside0.mk hr0_0; have HC0_0 := Aside0.mk hc0_0; clear hr0_0 hc0_0; have HR0_1 := Aside0.mk hr0_1; have HC0_1 := Aside0.mk hc0_1; clear hr0_1 hc0_1; have HB := Aside0.mk (Below.refl w.heap.size w); have H : ((laws_szIntS.f l0_0 a1).bind fun t102 => (if t102 < 0 then (some (-1)) else ((laws_szAccessS.f l0_1 t102).bind fun t103 => (if t103 < 0 then (some (-1)) else (some t103))))) = some r := h; clear h; obtain ⟨t102, A30, H⟩ := bE H; have A3 := Aside0.mk A30; clear A30; by_cases c4 : t102 < 0
 ·
  rw [if_pos c4] at H; have c4b0 : decide (t102 < 0) = true := decide_eq_true c4; clear c4; obtain rfl := Option.some.inj H; go_enter Try.func23, Try.ntmps23; go_wp2_with (first | ((with_reducible refine gate_dst (N := 2) rfl ?_); refine boxE (w := w) oL (cs := #[.slice A0_0 l0_0.length c0_0, .slice A0_1 l0_1.length c0_1]) (t := 41) ?_; clear HB; intro gb101 w5 HB BK101 GW101; have GE101 := GW101; obtain ⟨hcz6_0, hcz6_1⟩ := cz2 BK101.out; obtain ⟨hfz6_0, hfz6_1⟩ := fz2 BK101.out) | ((with_reducible refine gate_callee (f := 53) rfl ?_); refine goesL_ (some 8) rfl rfl Try.func53 (by kernel_rfl) rfl #[.slice A0_0 l0_0.length c0_0, .int .i64 a1] rfl (by (try simp only [List.map_toArray, List.map_cons, List.map_nil]); first | done | rfl | (simp only [List.length_drop, List.length_take]; rfl)) ?_; (with_reducible refine (laws_szIntS.calls _ _ l0_0 a1 t102 _ ?side1 ?side2 A3.out).mono ?_); (case side1 => exact oC HR0_0.out); (case side2 => exact HC0_0.out); rintro e w' ⟨rfl, ⟨nd, rfl⟩⟩; refine ⟨_, rfl, ?_⟩))
  go_ret; exact ⟨oE, oL⟩
 ·
  rw [if_neg c4] at H; have c4b0 : decide (t102 < 0) = false := decide_eq_false c4; clear c4; obtain ⟨t103, A70, H⟩ := bE H; have A7 := Aside0.mk A70; clear A70; by_cases c8 : t103 < 0
  ·
   rw [if_pos c8] at H; have c8b0 : decide (t103 < 0) = true := decide_eq_true c8; clear c8; obtain rfl := Option.some.inj H; go_enter Try.func23, Try.ntmps23; go_wp2_with (first | ((with_reducible refine gate_dst (N := 2) rfl ?_); refine boxE (w := w) oL (cs := #[.slice A0_0 l0_0.length c0_0, .slice A0_1 l0_1.length c0_1]) (t := 41) ?_; clear HB; intro gb101 w9 HB BK101 GW101; have GE101 := GW101; obtain ⟨hcz10_0, hcz10_1⟩ := cz2 BK101.out; obtain ⟨hfz10_0, hfz10_1⟩ := fz2 BK101.out) | ((with_reducible refine gate_callee (f := 53) rfl ?_); refine goesL_ (some 8) rfl rfl Try.func53 (by kernel_rfl) rfl #[.slice A0_0 l0_0.length c0_0, .int .i64 a1] rfl (by (try simp only [List.map_toArray, List.map_cons, List.map_nil]); first | done | rfl | (simp only [List.length_drop, List.length_take]; rfl)) ?_; (with_reducible refine (laws_szIntS.calls _ _ l0_0 a1 t102 _ ?side1 ?side2 A3.out).mono ?_); (case side1 => exact oC HR0_0.out); (case side2 => exact HC0_0.out); rintro e w' ⟨rfl, ⟨nd, rfl⟩⟩; refine ⟨_, rfl, ?_⟩) | ((with_reducible refine gate_callee (f := 54) rfl ?_); refine goesL_ (some 14) rfl rfl Try.func54 (by kernel_rfl) rfl #[.slice A0_1 l0_1.length c0_1, .int .i64 t102] rfl (by (try simp only [List.map_toArray, List.map_cons, List.map_nil]); first | done | rfl | (simp only [List.length_drop, List.length_take]; rfl)) ?_; (with_reducible refine (laws_szAccessS.calls _ _ l0_1 t102 t103 _ ?side1 ?side2 A7.out).mono ?_); (case side1 => repeat (first | exact (Kd.C_below HR0_1.out oL) | (with_reducible refine Kd.C_alloc ?_ _) | (with_reducible refine Kd.C_drewN ?_ _) | (with_reducible refine Kd.C_drew ?_))); (case side2 => exact HC0_1.out); rintro e w' ⟨rfl, ⟨nd, rfl⟩⟩; refine ⟨_, rfl, ?_⟩))
   go_ret; exact ⟨oE, oL⟩
  ·
   rw [if_neg c8] at H; have c8b0 : decide (t103 < 0) = false := decide_eq_false c8; clear c8; obtain rfl := Option.some.inj H; go_enter Try.func23, Try.ntmps23; go_wp2_with (first | ((with_reducible refine gate_dst (N := 2) rfl ?_); refine boxE (w := w) oL (cs := #[.slice A0_0 l0_0.length c0_0, .slice A0_1 l0_1.length c0_1]) (t := 41) ?_; clear HB; intro gb101 w11 HB BK101 GW101; have GE101 := GW101; obtain ⟨hcz12_0, hcz12_1⟩ := cz2 BK101.out; obtain ⟨hfz12_0, hfz12_1⟩ := fz2 BK101.out) | ((with_reducible refine gate_callee (f := 53) rfl ?_); refine goesL_ (some 8) rfl rfl Try.func53 (by kernel_rfl) rfl #[.slice A0_0 l0_0.length c0_0, .int .i64 a1] rfl (by (try simp only [List.map_toArray, List.map_cons, List.map_nil]); first | done | rfl | (simp only [List.length_drop, List.length_take]; rfl)) ?_; (with_reducible refine (laws_szIntS.calls _ _ l0_0 a1 t102 _ ?side1 ?side2 A3.out).mono ?_); (case side1 => exact oC HR0_0.out); (case side2 => exact HC0_0.out); rintro e w' ⟨rfl, ⟨nd, rfl⟩⟩; refine ⟨_, rfl, ?_⟩) | ((with_reducible refine gate_callee (f := 54) rfl ?_); refine goesL_ (some 14) rfl rfl Try.func54 (by kernel_rfl) rfl #[.slice A0_1 l0_1.length c0_1, .int .i64 t102] rfl (by (try simp only [List.map_toArray, List.map_cons, List.map_nil]); first | done | rfl | (simp only [List.length_drop, List.length_take]; rfl)) ?_; (with_reducible refine (laws_szAccessS.calls _ _ l0_1 t102 t103 _ ?side1 ?side2 A7.out).mono ?_); (case side1 => repeat (first | exact (Kd.C_below HR0_1.out oL) | (with_reducible refine Kd.C_alloc ?_ _) | (with_reducible refine Kd.C_drewN ?_ _) | (with_reducible refine Kd.C_drew ?_))); (case side2 => exact HC0_1.out); rintro e w' ⟨rfl, ⟨nd, rfl⟩⟩; refine ⟨_, rfl, ?_⟩))
   go_ret; exact ⟨oE, oL⟩

/-! ### spec_l1In: function 56 -/
def spec_l1In.f (a0 : Int) (a1 : Int) (a2 : Int) : Option (Bool) := if a0 ≥ a1 then (some (decide (a0 ≤ a2))) else (some false)
set_option maxHeartbeats 8000000 in
set_option maxRecDepth 100000 in
theorem spec_l1In.calls (a0 : Int) (a1 : Int) (a2 : Int) (r : Bool) (w : World) (h : spec_l1In.f a0 a1 a2 = some r) :
  Calls Try.prog 56 #[.int .i64 a0, .int .i64 a1, .int .i64 a2] w fun e w' => e = .returned (.bool r) ∧ Drawn0 w w' := by
 have H : (if a0 ≥ a1 then (some (decide (a0 ≤ a2))) else (some false)) = some r := h; clear h; by_cases c4 : a0 ≥ a1
 · rw [if_pos c4] at H; have c4b0 : decide (a1 ≤ a0) = true := decide_eq_true c4; clear c4; obtain rfl := Option.some.inj H; go_enter Try.func56, Try.ntmps56; go_wp2; go_ret; exact ⟨by first | rfl | (simp; done) | (simp [*]; done), by repeat (first | exact Drawn0.refl _ | apply Drawn0.step)⟩
 · rw [if_neg c4] at H; have c4b0 : decide (a1 ≤ a0) = false := decide_eq_false c4; clear c4; obtain rfl := Option.some.inj H; go_enter Try.func56, Try.ntmps56; go_wp2; go_ret; exact ⟨by first | rfl | (simp; done) | (simp [*]; done), by repeat (first | exact Drawn0.refl _ | apply Drawn0.step)⟩

/-! ### spec_l4Bytes: function 80 -/
def spec_l4Bytes.l0 : Nat → List Int → Int → Int → Option (Bool)
 | 0, _, _, _ => none
 | k + 1, x5, x6, x7 => if x7 < x6 then (if 0 ≤ x7 then (if x7 < (x5.length : Int) then ((spec_l1In.f (rd x5 x7) 0 255).bind fun t102 => (if t102 = true then (spec_l4Bytes.l0 k x5 x6 (wrap64 (x7 + 1))) else (some false))) else (none)) else (none)) else (some true)
def spec_l4Bytes.f (k : Nat) (l0 : List Int) : Option (Bool) := spec_l4Bytes.l0 k l0 (l0.length : Int) 0
theorem spec_l4Bytes.mono_l : ∀ k, (∀ y0 y1 y2, LeO (spec_l4Bytes.l0 k y0 y1 y2) (spec_l4Bytes.l0 (k + 1) y0 y1 y2))
 | 0 => fun _ _ _ r h => by simp [spec_l4Bytes.l0] at h
 | k + 1 => by
  have ih0 := spec_l4Bytes.mono_l k
  ·
   intro y0 y1 y2
   unfold spec_l4Bytes.l0
   repeat' first
   | (with_reducible exact ih0 _ _ _)
   | (with_reducible exact LeO.refl _)
   | (with_reducible exact LeO.none _)
   | (with_reducible refine LeO.ite ?_ ?_)
   | (with_reducible refine LeO.bind ?_ (fun _ => ?_))
   | exact ih0 _ _ _
   | exact LeO.none _
   | refine LeO.ite ?_ ?_
   | refine LeO.bind ?_ (fun _ => ?_)
theorem spec_l4Bytes.mono : ∀ a0 k, LeO (spec_l4Bytes.f k a0) (spec_l4Bytes.f (k + 1) a0) := by
 intro a0 k
 have ih0 := spec_l4Bytes.mono_l k
 unfold spec_l4Bytes.f
 repeat' first
   | (with_reducible exact ih0 _ _ _)
   | (with_reducible exact LeO.refl _)
   | (with_reducible exact LeO.none _)
   | (with_reducible refine LeO.ite ?_ ?_)
   | (with_reducible refine LeO.bind ?_ (fun _ => ?_))
   | exact ih0 _ _ _
   | exact LeO.none _
   | refine LeO.ite ?_ ?_
   | refine LeO.bind ?_ (fun _ => ?_)
set_option maxHeartbeats 8000000 in
set_option maxRecDepth 100000 in
theorem spec_l4Bytes.calls (k : Nat) (A0 : Option Addr) (c0 : Nat) (l0 : List Int) (r : Bool) (w : World) (hr0 : Kd.C (Kd.int .i64) w A0 l0.length l0) (hc0 : l0.length ≤ c0) (h : spec_l4Bytes.f k l0 = some r) :
  Calls Try.prog 80 #[.slice A0 l0.length c0] w fun e w' => e = .returned (.bool r) ∧ Drawn0 w w' := by
 have HR0 := Aside0.mk hr0; have HC0 := Aside0.mk hc0; clear hr0 hc0; have H : (spec_l4Bytes.l0 k l0 (l0.length : Int) 0) = some r := h; clear h; have H' := Aside0.mk H; clear H; go_enter Try.func80, Try.ntmps80; go_wp2; go_loopg [7] k (fun kq v7 w' => ∃ (x7_1 : Int), v7 = .int .i64 x7_1 ∧ Aside0 (spec_l4Bytes.l0 kq l0 (l0.length : Int) x7_1 = some r) ∧ Aside0 (kq ≤ k) ∧ Drawn0 w w')
 case atStart => exact ⟨(0), (by first | rfl | (simp; done) | (simp [*]; done)), H', ⟨Nat.le_refl _⟩, by repeat (first | exact Drawn0.refl _ | apply Drawn0.step)⟩
 case round =>
  clear H'; obtain ⟨x7_1, rfl, HA, HK1, ⟨m1, rfl⟩⟩ := hrel; cases gk with
  | zero => exact absurd HA.out (by simp [spec_l4Bytes.l0])
  | succ k1 =>
   have H := HA.out; clear HA; simp only [spec_l4Bytes.l0] at H; by_cases c2 : x7_1 < (l0.length : Int)
   ·
    rw [if_pos c2] at H; have c2b0 : decide (x7_1 < (l0.length : Int)) = true := decide_eq_true c2; clear c2; by_cases c3 : 0 ≤ x7_1
    ·
     rw [if_pos c3] at H; have c3b0 : decide (0 ≤ x7_1) = true := decide_eq_true c3; clear c3; by_cases c4 : x7_1 < (l0.length : Int)
     ·
      rw [if_pos c4] at H; have c4b0 : decide (x7_1 < (l0.length : Int)) = true := decide_eq_true c4; clear c4; obtain ⟨t102, A50, H⟩ := bE H; have A5 := Aside0.mk A50; clear A50; by_cases c6 : t102 = true
      ·
       subst c6; replace H := iT H; have H' := Aside0.mk H; clear H; have p101 : 0 ≤ (x7_1 : Int) := of_decide_eq_true (by first | (with_reducible assumption) | assumption); have q101 : x7_1 < (l0.length : Int) := of_decide_eq_true (by first | (with_reducible assumption) | assumption); obtain ⟨ad101, e101, hx101_0⟩ := Kd.at_int HR0.out x7_1 p101 q101; cases e101
       replace p101 := eq_true p101; replace q101 := eq_true q101; go_wp2_with (first | ((with_reducible refine gate_callee (f := 56) rfl ?_); refine goesQ (some 12) Try.func56 #[.int .i64 (rd l0 x7_1), .int .i64 0, .int .i64 255] (spec_l1In.calls (rd l0 x7_1) 0 255 true _ A5.out) fun nd => ?_))
       go_roundg k1; case measure => have := HK1.out; omega
       case rel => exact ⟨(wrap64 (x7_1 + 1)), (by first | rfl | (simp; done) | (simp [*]; done)), H', ⟨by have := HK1.out; omega⟩, by repeat (first | exact Drawn0.refl _ | apply Drawn0.step)⟩
      ·
       replace c6 := Bool.eq_false_iff.mpr c6; subst c6; replace H := iF H; obtain rfl := Option.some.inj H; have p101 : 0 ≤ (x7_1 : Int) := of_decide_eq_true (by first | (with_reducible assumption) | assumption); have q101 : x7_1 < (l0.length : Int) := of_decide_eq_true (by first | (with_reducible assumption) | assumption); obtain ⟨ad101, e101, hx101_0⟩ := Kd.at_int HR0.out x7_1 p101 q101; cases e101
       replace p101 := eq_true p101; replace q101 := eq_true q101; go_wp2_with (first | ((with_reducible refine gate_callee (f := 56) rfl ?_); refine goesQ (some 12) Try.func56 #[.int .i64 (rd l0 x7_1), .int .i64 0, .int .i64 255] (spec_l1In.calls (rd l0 x7_1) 0 255 false _ A5.out) fun nd => ?_))
       go_ret; exact ⟨by first | rfl | (simp; done) | (simp [*]; done), by repeat (first | exact Drawn0.refl _ | apply Drawn0.step)⟩
     · rw [if_neg c4] at H; exact absurd H (by simp)
    · rw [if_neg c3] at H; exact absurd H (by simp)
   · rw [if_neg c2] at H; have c2b0 : decide (x7_1 < (l0.length : Int)) = false := decide_eq_false c2; clear c2; obtain rfl := Option.some.inj H; go_wp2; go_ret; exact ⟨by first | rfl | (simp; done) | (simp [*]; done), by repeat (first | exact Drawn0.refl _ | apply Drawn0.step)⟩

/-! ### spec_l1Size: function 91 -/
def spec_l1Size.f (a0 : Int) : Option (Bool) := if a0 = 1 then (some true) else (some (a0 == 2))
set_option maxHeartbeats 8000000 in
set_option maxRecDepth 100000 in
theorem spec_l1Size.calls (a0 : Int) (r : Bool) (w : World) (h : spec_l1Size.f a0 = some r) :
  Calls Try.prog 91 #[.int .i64 a0] w fun e w' => e = .returned (.bool r) ∧ Drawn0 w w' := by
 have H : (if a0 = 1 then (some true) else (some (a0 == 2))) = some r := h; clear h; by_cases c2 : a0 = 1
 · rw [if_pos c2] at H; obtain ⟨c2b0, c2b1⟩ := eT c2; clear c2; obtain rfl := Option.some.inj H; go_enter Try.func91, Try.ntmps91; go_wp2; go_ret; exact ⟨by first | rfl | (simp; done) | (simp [*]; done), by repeat (first | exact Drawn0.refl _ | apply Drawn0.step)⟩
 · rw [if_neg c2] at H; obtain ⟨c2b0, c2b1⟩ := eF c2; obtain rfl := Option.some.inj H; go_enter Try.func91, Try.ntmps91; go_wp2; go_ret; exact ⟨by first | rfl | (simp; done) | (simp [*]; done), by repeat (first | exact Drawn0.refl _ | apply Drawn0.step)⟩

/-! ### spec_l1Top: function 92 -/
def spec_l1Top.f (a0 : Int) : Option (Int) := if 0 ≤ (IntKind.u64.wrap (wrap64 (8 * a0))) then (some (shl .i64 1 (IntKind.u64.wrap (wrap64 (8 * a0))))) else (none)
set_option maxHeartbeats 8000000 in
set_option maxRecDepth 100000 in
theorem spec_l1Top.calls (a0 : Int) (r : Int) (w : World) (h : spec_l1Top.f a0 = some r) :
  Calls Try.prog 92 #[.int .i64 a0] w fun e w' => e = .returned (.int .i64 r) ∧ Drawn0 w w' := by
 have H : (if 0 ≤ (IntKind.u64.wrap (wrap64 (8 * a0))) then (some (shl .i64 1 (IntKind.u64.wrap (wrap64 (8 * a0))))) else (none)) = some r := h; clear h; obtain ⟨ji2, hji2⟩ : ∃ j_ : Int, (IntKind.u64.wrap (wrap64 (8 * a0))) = j_ := ⟨_, rfl⟩; replace H : (if 0 ≤ (ji2) then (some (shl .i64 1 (ji2))) else (none)) = some r := by first | (rw [hji2] at H; exact H) | (simp only [hji2] at H ⊢; exact H)
 by_cases c3 : 0 ≤ (ji2)
 ·
  rw [if_pos c3] at H; have c3b0 := eq_true c3; have c3b1 : decide (0 ≤ (ji2)) = true := decide_eq_true c3; clear c3; obtain ⟨ji4, hji4⟩ : ∃ j_ : Int, (shl .i64 1 (ji2)) = j_ := ⟨_, rfl⟩; replace H : (some ji4) = some r := by first | (rw [hji4] at H; exact H) | (simp only [hji4] at H ⊢; exact H)
  have hji4_ : (IntKind.i64.wrap (1 * 2 ^ min (ji2).toNat 64)) = ji4 := hji4; have hji4z : (ji2) ≤ 64 → (IntKind.i64.wrap (1 * 2 ^ (ji2).toNat)) = ji4 := shl_small hji4; have hji4u : (IntKind.i64.wrap (2 ^ min (ji2).toNat 64)) = ji4 := by have h_ := hji4_; rw [Int.one_mul] at h_; exact h_
  have hji4v : (ji2) ≤ 64 → (IntKind.i64.wrap (2 ^ (ji2).toNat)) = ji4 := fun hle_ => by have h_ := hji4z hle_; rw [Int.one_mul] at h_; exact h_
  have hji4y : (wrap64 (1 * 2 ^ min (ji2).toNat 64)) = ji4 := (i64_w _).symm.trans hji4_; have hji4x : (ji2) ≤ 64 → (wrap64 (1 * 2 ^ (ji2).toNat)) = ji4 := fun h_ => (i64_w _).symm.trans (hji4z h_)
  obtain rfl := Option.some.inj H; go_enter Try.func92, Try.ntmps92; go_wp2; go_ret; exact ⟨by first | rfl | (simp; done) | (simp only [← hji2, ← hji4] <;> (first | rfl | simp)) | (simp [*]; done), by repeat (first | exact Drawn0.refl _ | apply Drawn0.step)⟩
 · rw [if_neg c3] at H; exact absurd H (by simp)

/-! ### spec_l1Value: function 57 -/
def spec_l1Value.f (a0 : Int) (a1 : Int) : Option (Bool) := (spec_l1Size.f a0).bind fun t101 => (if t101 = true then ((spec_l1Top.f a0).bind fun t102 => ((spec_l1In.f a1 0 (wrap64 (t102 - 1))).bind fun t103 => (some t103))) else (some false))
set_option maxHeartbeats 8000000 in
set_option maxRecDepth 100000 in
theorem spec_l1Value.calls (a0 : Int) (a1 : Int) (r : Bool) (w : World) (h : spec_l1Value.f a0 a1 = some r) :
  Calls Try.prog 57 #[.int .i64 a0, .int .i64 a1] w fun e w' => e = .returned (.bool r) ∧ Drawn0 w w' := by
 have H : ((spec_l1Size.f a0).bind fun t101 => (if t101 = true then ((spec_l1Top.f a0).bind fun t102 => ((spec_l1In.f a1 0 (wrap64 (t102 - 1))).bind fun t103 => (some t103))) else (some false))) = some r := h; clear h; obtain ⟨t101, A30, H⟩ := bE H; have A3 := Aside0.mk A30; clear A30; by_cases c4 : t101 = true
 ·
  subst c4; replace H := iT H; obtain ⟨t102, A50, H⟩ := bE H; have A5 := Aside0.mk A50; clear A50; obtain ⟨t103, A60, H⟩ := bE H; have A6 := Aside0.mk A60; clear A60; obtain rfl := Option.some.inj H; go_enter Try.func57, Try.ntmps57; go_wp2_with (first | ((with_reducible refine gate_callee (f := 91) rfl ?_); refine goesQ (some 6) Try.func91 #[.int .i64 a0] (spec_l1Size.calls a0 true _ A3.out) fun nd => ?_) | (go_at_call 92; (with_reducible refine (spec_l1Top.calls a0 t102 _ A5.out).mono ?_); rintro e w' ⟨rfl, ⟨nd, rfl⟩⟩) | (go_at_call 56; (with_reducible refine (spec_l1In.calls a1 0 (wrap64 (t102 - 1)) t103 _ A6.out).mono ?_); rintro e w' ⟨rfl, ⟨nd, rfl⟩⟩))
  go_ret; exact ⟨by first | rfl | (simp; done) | (simp [*]; done), by repeat (first | exact Drawn0.refl _ | apply Drawn0.step)⟩
 ·
  replace c4 := Bool.eq_false_iff.mpr c4; subst c4; replace H := iF H; obtain rfl := Option.some.inj H; go_enter Try.func57, Try.ntmps57; go_wp2_with (first | ((with_reducible refine gate_callee (f := 91) rfl ?_); refine goesQ (some 6) Try.func91 #[.int .i64 a0] (spec_l1Size.calls a0 false _ A3.out) fun nd => ?_))
  go_ret; exact ⟨by first | rfl | (simp; done) | (simp [*]; done), by repeat (first | exact Drawn0.refl _ | apply Drawn0.step)⟩

/-! ### spec_l4Addr: function 58 -/
def spec_l4Addr.f (a0 : Int) : Option (Bool) := (spec_l1In.f a0 0 65535).bind fun t101 => (some t101)
set_option maxHeartbeats 8000000 in
set_option maxRecDepth 100000 in
theorem spec_l4Addr.calls (a0 : Int) (r : Bool) (w : World) (h : spec_l4Addr.f a0 = some r) :
  Calls Try.prog 58 #[.int .i64 a0] w fun e w' => e = .returned (.bool r) ∧ Drawn0 w w' := by
 have H : ((spec_l1In.f a0 0 65535).bind fun t101 => (some t101)) = some r := h; clear h; obtain ⟨t101, A20, H⟩ := bE H; have A2 := Aside0.mk A20; clear A20; obtain rfl := Option.some.inj H; go_enter Try.func58, Try.ntmps58; go_wp2_with (first | ((with_reducible refine gate_callee (f := 56) rfl ?_); refine goesQ (some 4) Try.func56 #[.int .i64 a0, .int .i64 0, .int .i64 65535] (spec_l1In.calls a0 0 65535 t101 _ A2.out) fun nd => ?_))
 go_ret; exact ⟨by first | rfl | (simp; done) | (simp [*]; done), by repeat (first | exact Drawn0.refl _ | apply Drawn0.step)⟩

/-! ### spec_l4Access: function 90 -/
def spec_l4Access.f (a0_0 : Int) (a0_1 : Int) (a0_2 : Int) (a0_3 : Int) (a0_4 : Int) : Option (Bool) := (spec_l1In.f a0_0 1 3).bind fun t102 => (if t102 = true then ((spec_l1Value.f a0_1 a0_3).bind fun t103 => (if t103 = true then ((spec_l4Addr.f a0_2).bind fun t104 => (if t104 = true then ((spec_l1In.f a0_4 0 3).bind fun t105 => (if t105 = true then (if a0_0 = 3 then (some (a0_4 != 0)) else (some true)) else (some false))) else (some false))) else (some false))) else (some false))
set_option maxHeartbeats 8000000 in
set_option maxRecDepth 100000 in
theorem spec_l4Access.calls (a0_0 : Int) (a0_1 : Int) (a0_2 : Int) (a0_3 : Int) (a0_4 : Int) (r : Bool) (w : World) (h : spec_l4Access.f a0_0 a0_1 a0_2 a0_3 a0_4 = some r) :
  Calls Try.prog 90 #[.agg #[.int .i64 a0_0, .int .i64 a0_1, .int .i64 a0_2, .int .i64 a0_3, .int .i64 a0_4]] w fun e w' => e = .returned (.bool r) ∧ Below w.heap.size w w' := by
 have hu109 := Try.underlying109; have HB := Aside0.mk (Below.refl w.heap.size w); have H : ((spec_l1In.f a0_0 1 3).bind fun t102 => (if t102 = true then ((spec_l1Value.f a0_1 a0_3).bind fun t103 => (if t103 = true then ((spec_l4Addr.f a0_2).bind fun t104 => (if t104 = true then ((spec_l1In.f a0_4 0 3).bind fun t105 => (if t105 = true then (if a0_0 = 3 then (some (a0_4 != 0)) else (some true)) else (some false))) else (some false))) else (some false))) else (some false))) = some r := h; clear h; obtain ⟨t102, A20, H⟩ := bE H; have A2 := Aside0.mk A20; clear A20; by_cases c3 : t102 = true
 ·
  subst c3; replace H := iT H; obtain ⟨t103, A40, H⟩ := bE H; have A4 := Aside0.mk A40; clear A40; by_cases c5 : t103 = true
  ·
   subst c5; replace H := iT H; obtain ⟨t104, A60, H⟩ := bE H; have A6 := Aside0.mk A60; clear A60; by_cases c7 : t104 = true
   ·
    subst c7; replace H := iT H; obtain ⟨t105, A80, H⟩ := bE H; have A8 := Aside0.mk A80; clear A80; by_cases c9 : t105 = true
    ·
     subst c9; replace H := iT H; by_cases c10 : a0_0 = 3
     ·
      rw [if_pos c10] at H; obtain ⟨c10b0, c10b1⟩ := eT c10; clear c10; obtain rfl := Option.some.inj H; go_enter Try.func90, Try.ntmps90; go_wp2_with (first | ((with_reducible refine gate_dst (N := 1) rfl ?_); refine boxE (w := w) oL (cs := #[.int .i64 a0_0, .int .i64 a0_1, .int .i64 a0_2, .int .i64 a0_3, .int .i64 a0_4]) (t := 109) ?_; clear HB; intro gb101 w11 HB BK101 GW101; have GE101 := GW101; obtain ⟨hcz12_0, hcz12_1, hcz12_2, hcz12_3, hcz12_4⟩ := cz5 BK101.out; obtain ⟨hfz12_0, hfz12_1, hfz12_2, hfz12_3, hfz12_4⟩ := fz5 BK101.out) | ((with_reducible refine gate_callee (f := 56) rfl ?_); refine goesQ (some 5) Try.func56 #[.int .i64 a0_0, .int .i64 1, .int .i64 3] (spec_l1In.calls a0_0 1 3 true _ A2.out) fun nd => ?_) | (go_at_call 57; (with_reducible refine (spec_l1Value.calls a0_1 a0_3 true _ A4.out).mono ?_); rintro e w' ⟨rfl, ⟨nd, rfl⟩⟩) | (go_at_call 58; (with_reducible refine (spec_l4Addr.calls a0_2 true _ A6.out).mono ?_); rintro e w' ⟨rfl, ⟨nd, rfl⟩⟩) | (go_at_call 56; (with_reducible refine (spec_l1In.calls a0_4 0 3 true _ A8.out).mono ?_); rintro e w' ⟨rfl, ⟨nd, rfl⟩⟩))
      go_ret; exact ⟨oE, oL⟩
     ·
      rw [if_neg c10] at H; obtain ⟨c10b0, c10b1⟩ := eF c10; obtain rfl := Option.some.inj H; go_enter Try.func90, Try.ntmps90; go_wp2_with (first | ((with_reducible refine gate_dst (N := 1) rfl ?_); refine boxE (w := w) oL (cs := #[.int .i64 a0_0, .int .i64 a0_1, .int .i64 a0_2, .int .i64 a0_3, .int .i64 a0_4]) (t := 109) ?_; clear HB; intro gb101 w13 HB BK101 GW101; have GE101 := GW101; obtain ⟨hcz14_0, hcz14_1, hcz14_2, hcz14_3, hcz14_4⟩ := cz5 BK101.out; obtain ⟨hfz14_0, hfz14_1, hfz14_2, hfz14_3, hfz14_4⟩ := fz5 BK101.out) | ((with_reducible refine gate_callee (f := 56) rfl ?_); refine goesQ (some 5) Try.func56 #[.int .i64 a0_0, .int .i64 1, .int .i64 3] (spec_l1In.calls a0_0 1 3 true _ A2.out) fun nd => ?_) | (go_at_call 57; (with_reducible refine (spec_l1Value.calls a0_1 a0_3 true _ A4.out).mono ?_); rintro e w' ⟨rfl, ⟨nd, rfl⟩⟩) | (go_at_call 58; (with_reducible refine (spec_l4Addr.calls a0_2 true _ A6.out).mono ?_); rintro e w' ⟨rfl, ⟨nd, rfl⟩⟩) | (go_at_call 56; (with_reducible refine (spec_l1In.calls a0_4 0 3 true _ A8.out).mono ?_); rintro e w' ⟨rfl, ⟨nd, rfl⟩⟩))
      go_ret; exact ⟨oE, oL⟩
    ·
     replace c9 := Bool.eq_false_iff.mpr c9; subst c9; replace H := iF H; obtain rfl := Option.some.inj H; go_enter Try.func90, Try.ntmps90; go_wp2_with (first | ((with_reducible refine gate_dst (N := 1) rfl ?_); refine boxE (w := w) oL (cs := #[.int .i64 a0_0, .int .i64 a0_1, .int .i64 a0_2, .int .i64 a0_3, .int .i64 a0_4]) (t := 109) ?_; clear HB; intro gb101 w15 HB BK101 GW101; have GE101 := GW101; obtain ⟨hcz16_0, hcz16_1, hcz16_2, hcz16_3, hcz16_4⟩ := cz5 BK101.out; obtain ⟨hfz16_0, hfz16_1, hfz16_2, hfz16_3, hfz16_4⟩ := fz5 BK101.out) | ((with_reducible refine gate_callee (f := 56) rfl ?_); refine goesQ (some 5) Try.func56 #[.int .i64 a0_0, .int .i64 1, .int .i64 3] (spec_l1In.calls a0_0 1 3 true _ A2.out) fun nd => ?_) | (go_at_call 57; (with_reducible refine (spec_l1Value.calls a0_1 a0_3 true _ A4.out).mono ?_); rintro e w' ⟨rfl, ⟨nd, rfl⟩⟩) | (go_at_call 58; (with_reducible refine (spec_l4Addr.calls a0_2 true _ A6.out).mono ?_); rintro e w' ⟨rfl, ⟨nd, rfl⟩⟩) | (go_at_call 56; (with_reducible refine (spec_l1In.calls a0_4 0 3 false _ A8.out).mono ?_); rintro e w' ⟨rfl, ⟨nd, rfl⟩⟩))
     go_ret; exact ⟨oE, oL⟩
   ·
    replace c7 := Bool.eq_false_iff.mpr c7; subst c7; replace H := iF H; obtain rfl := Option.some.inj H; go_enter Try.func90, Try.ntmps90; go_wp2_with (first | ((with_reducible refine gate_dst (N := 1) rfl ?_); refine boxE (w := w) oL (cs := #[.int .i64 a0_0, .int .i64 a0_1, .int .i64 a0_2, .int .i64 a0_3, .int .i64 a0_4]) (t := 109) ?_; clear HB; intro gb101 w17 HB BK101 GW101; have GE101 := GW101; obtain ⟨hcz18_0, hcz18_1, hcz18_2, hcz18_3, hcz18_4⟩ := cz5 BK101.out; obtain ⟨hfz18_0, hfz18_1, hfz18_2, hfz18_3, hfz18_4⟩ := fz5 BK101.out) | ((with_reducible refine gate_callee (f := 56) rfl ?_); refine goesQ (some 5) Try.func56 #[.int .i64 a0_0, .int .i64 1, .int .i64 3] (spec_l1In.calls a0_0 1 3 true _ A2.out) fun nd => ?_) | (go_at_call 57; (with_reducible refine (spec_l1Value.calls a0_1 a0_3 true _ A4.out).mono ?_); rintro e w' ⟨rfl, ⟨nd, rfl⟩⟩) | (go_at_call 58; (with_reducible refine (spec_l4Addr.calls a0_2 false _ A6.out).mono ?_); rintro e w' ⟨rfl, ⟨nd, rfl⟩⟩))
    go_ret; exact ⟨oE, oL⟩
  ·
   replace c5 := Bool.eq_false_iff.mpr c5; subst c5; replace H := iF H; obtain rfl := Option.some.inj H; go_enter Try.func90, Try.ntmps90; go_wp2_with (first | ((with_reducible refine gate_dst (N := 1) rfl ?_); refine boxE (w := w) oL (cs := #[.int .i64 a0_0, .int .i64 a0_1, .int .i64 a0_2, .int .i64 a0_3, .int .i64 a0_4]) (t := 109) ?_; clear HB; intro gb101 w19 HB BK101 GW101; have GE101 := GW101; obtain ⟨hcz20_0, hcz20_1, hcz20_2, hcz20_3, hcz20_4⟩ := cz5 BK101.out; obtain ⟨hfz20_0, hfz20_1, hfz20_2, hfz20_3, hfz20_4⟩ := fz5 BK101.out) | ((with_reducible refine gate_callee (f := 56) rfl ?_); refine goesQ (some 5) Try.func56 #[.int .i64 a0_0, .int .i64 1, .int .i64 3] (spec_l1In.calls a0_0 1 3 true _ A2.out) fun nd => ?_) | (go_at_call 57; (with_reducible refine (spec_l1Value.calls a0_1 a0_3 false _ A4.out).mono ?_); rintro e w' ⟨rfl, ⟨nd, rfl⟩⟩))
   go_ret; exact ⟨oE, oL⟩
 ·
  replace c3 := Bool.eq_false_iff.mpr c3; subst c3; replace H := iF H; obtain rfl := Option.some.inj H; go_enter Try.func90, Try.ntmps90; go_wp2_with (first | ((with_reducible refine gate_dst (N := 1) rfl ?_); refine boxE (w := w) oL (cs := #[.int .i64 a0_0, .int .i64 a0_1, .int .i64 a0_2, .int .i64 a0_3, .int .i64 a0_4]) (t := 109) ?_; clear HB; intro gb101 w21 HB BK101 GW101; have GE101 := GW101; obtain ⟨hcz22_0, hcz22_1, hcz22_2, hcz22_3, hcz22_4⟩ := cz5 BK101.out; obtain ⟨hfz22_0, hfz22_1, hfz22_2, hfz22_3, hfz22_4⟩ := fz5 BK101.out) | ((with_reducible refine gate_callee (f := 56) rfl ?_); refine goesQ (some 5) Try.func56 #[.int .i64 a0_0, .int .i64 1, .int .i64 3] (spec_l1In.calls a0_0 1 3 false _ A2.out) fun nd => ?_))
  go_ret; exact ⟨oE, oL⟩

/-! ### spec_GoodBus: function 55 -/
def spec_GoodBus.l0 : Nat → List (S109) → Int → Int → List Int → List (S109) → Option (Bool)
 | 0, _, _, _, _, _ => none
 | k + 1, x6, x7, x8, x102000, x102001 => if x8 < x7 then (if 0 ≤ x8 then (if x8 < (x6.length : Int) then ((spec_l4Access.f ((rd_T109 x6 x8).f0) ((rd_T109 x6 x8).f1) ((rd_T109 x6 x8).f2) ((rd_T109 x6 x8).f3) ((rd_T109 x6 x8).f4)).bind fun t104 => (if t104 = true then (spec_GoodBus.l0 k x6 x7 (wrap64 (x8 + 1)) x102000 x102001) else (some false))) else (none)) else (none)) else (if (x102000.length : Int) = 512 then ((spec_l4Bytes.f k x102000).bind fun t105 => (if t105 = true then (some (decide ((x102001.length : Int) ≤ 400))) else (some false))) else (some false))
def spec_GoodBus.f (k : Nat) (l0_0 : List Int) (l0_1 : List (S109)) : Option (Bool) := spec_GoodBus.l0 k l0_1 (l0_1.length : Int) 0 l0_0 l0_1
theorem spec_GoodBus.mono_l : ∀ k, (∀ y0 y1 y2 y3 y4, LeO (spec_GoodBus.l0 k y0 y1 y2 y3 y4) (spec_GoodBus.l0 (k + 1) y0 y1 y2 y3 y4))
 | 0 => fun _ _ _ _ _ r h => by simp [spec_GoodBus.l0] at h
 | k + 1 => by
  have ih0 := spec_GoodBus.mono_l k
  ·
   intro y0 y1 y2 y3 y4
   unfold spec_GoodBus.l0
   repeat' first
   | (with_reducible exact ih0 _ _ _ _ _)
   | (with_reducible exact spec_l4Bytes.mono _ _)
   | (with_reducible exact LeO.refl _)
   | (with_reducible exact LeO.none _)
   | (with_reducible refine LeO.ite ?_ ?_)
   | (with_reducible refine LeO.bind ?_ (fun _ => ?_))
   | exact ih0 _ _ _ _ _
   | exact spec_l4Bytes.mono _ _
   | exact LeO.none _
   | refine LeO.ite ?_ ?_
   | refine LeO.bind ?_ (fun _ => ?_)
theorem spec_GoodBus.mono : ∀ a0 a1 k, LeO (spec_GoodBus.f k a0 a1) (spec_GoodBus.f (k + 1) a0 a1) := by
 intro a0 a1 k
 have ih0 := spec_GoodBus.mono_l k
 unfold spec_GoodBus.f
 repeat' first
   | (with_reducible exact ih0 _ _ _ _ _)
   | (with_reducible exact spec_l4Bytes.mono _ _)
   | (with_reducible exact LeO.refl _)
   | (with_reducible exact LeO.none _)
   | (with_reducible refine LeO.ite ?_ ?_)
   | (with_reducible refine LeO.bind ?_ (fun _ => ?_))
   | exact ih0 _ _ _ _ _
   | exact spec_l4Bytes.mono _ _
   | exact LeO.none _
   | refine LeO.ite ?_ ?_
   | refine LeO.bind ?_ (fun _ => ?_)
set_option maxHeartbeats 8000000 in
set_option maxRecDepth 100000 in
theorem spec_GoodBus.calls (k : Nat) (A0_0 : Option Addr) (c0_0 : Nat) (l0_0 : List Int) (A0_1 : Option Addr) (c0_1 : Nat) (l0_1 : List (S109)) (r : Bool) (w : World) (hr0_0 : Kd.C (Kd.int .i64) w A0_0 l0_0.length l0_0) (hc0_0 : l0_0.length ≤ c0_0) (hr0_1 : Kd.C k109 w A0_1 l0_1.length l0_1) (hc0_1 : l0_1.length ≤ c0_1) (h : spec_GoodBus.f k l0_0 l0_1 = some r) :
  Calls Try.prog 55 #[.agg #[.slice A0_0 l0_0.length c0_0, .slice A0_1 l0_1.length c0_1]] w fun e w' => e = .returned (.bool r) ∧ Below w.heap.size w w' := by
 have hu27 := Try.underlying27; have hu109 := Try.underlying109; have HR0_0 := Aside0.mk hr0_0; have HC0_0 := Aside0.mk hc0_0; clear hr0_0 hc0_0; have HR0_1 := Aside0.mk hr0_1; have HC0_1 := Aside0.mk hc0_1; clear hr0_1 hc0_1; have HB := Aside0.mk (Below.refl w.heap.size w); have H : (spec_GoodBus.l0 k l0_1 (l0_1.length : Int) 0 l0_0 l0_1) = some r := h; clear h; have H' := Aside0.mk H; clear H; go_enter Try.func55, Try.ntmps55; go_wp2_with (first | ((with_reducible refine gate_dst (N := 1) rfl ?_); (try (refine gate_guard (by rfl) ?_; dsimp only)); refine boxE (w := w) oL (cs := #[.slice A0_0 l0_0.length c0_0, .slice A0_1 l0_1.length c0_1]) (t := 27) ?_; clear HB; intro gb101 w2 HB BK101 GW101; have GE101 := GW101; obtain ⟨hcz3_0, hcz3_1⟩ := cz2 BK101.out; obtain ⟨hfz3_0, hfz3_1⟩ := fz2 BK101.out))
 go_loopg [8] k (fun kq v8 w' => ∃ (x8_1 : Int), v8 = .int .i64 x8_1 ∧ Aside0 (spec_GoodBus.l0 kq l0_1 (l0_1.length : Int) x8_1 l0_0 l0_1 = some r) ∧ Aside0 (kq ≤ k) ∧ Aside0 (w'.heap[gb101]? = some (.cells #[(.slice A0_0 l0_0.length c0_0), (.slice A0_1 l0_1.length c0_1)] 27 (0, 0))) ∧ Aside0 (Below w.heap.size w w'))
 case atStart => exact ⟨(0), (by first | rfl | (simp; done) | (simp [*]; done)), H', ⟨Nat.le_refl _⟩, ⟨by (with_reducible repeat (first | refine blk_drewN ?_ _ | refine blk_drew ?_ | refine blk_alloc ?_ _)); exact BK101.out⟩, ⟨by repeat (first | (with_reducible first | exact HB.out | apply below_alloc | apply pw_below_drewN | apply below_drew1 | refine below_set ?_ GE101.out) | exact HB.out)⟩⟩
 case round =>
  clear H'; (try clear p2); (try clear hcz3_0 hcz3_1); (try clear hfz3_0 hfz3_1); obtain ⟨x8_1, rfl, HA, HK1, BK101, HB⟩ := hrel; cases gk with
  | zero => exact absurd HA.out (by simp [spec_GoodBus.l0])
  | succ k1 =>
   have H := HA.out; clear HA; simp only [spec_GoodBus.l0] at H; by_cases c4 : x8_1 < (l0_1.length : Int)
   ·
    rw [if_pos c4] at H; have c4b0 : decide (x8_1 < (l0_1.length : Int)) = true := decide_eq_true c4; clear c4; by_cases c5 : 0 ≤ x8_1
    ·
     rw [if_pos c5] at H; have c5b0 : decide (0 ≤ x8_1) = true := decide_eq_true c5; clear c5; by_cases c6 : x8_1 < (l0_1.length : Int)
     ·
      rw [if_pos c6] at H; have c6b0 : decide (x8_1 < (l0_1.length : Int)) = true := decide_eq_true c6; clear c6; obtain ⟨t104, A70, H⟩ := bE H; have A7 := Aside0.mk A70; clear A70; by_cases c8 : t104 = true
      ·
       subst c8; replace H := iT H; have H' := Aside0.mk H; clear H; have p102 : 0 ≤ (x8_1 : Int) := of_decide_eq_true (by first | (with_reducible assumption) | assumption); have q102 : x8_1 < (l0_1.length : Int) := of_decide_eq_true (by first | (with_reducible assumption) | assumption); obtain ⟨ad102, e102, hx102_0, hx102_1, hx102_2, hx102_3, hx102_4⟩ := at_T109 HR0_1.out x8_1 p102 q102; cases e102
       replace hx102_0 := (HB.out.cell (World.block_lt_of_cell? w _ hx102_0)).trans hx102_0; replace hx102_1 := (HB.out.cell (World.block_lt_of_cell? w _ hx102_1)).trans hx102_1; replace hx102_2 := (HB.out.cell (World.block_lt_of_cell? w _ hx102_2)).trans hx102_2; replace hx102_3 := (HB.out.cell (World.block_lt_of_cell? w _ hx102_3)).trans hx102_3; replace hx102_4 := (HB.out.cell (World.block_lt_of_cell? w _ hx102_4)).trans hx102_4; replace p102 := eq_true p102; replace q102 := eq_true q102; go_wp2_with (first | ((with_reducible refine gate_dst (N := 4) rfl ?_); (try (refine gate_guard (by rfl) ?_; dsimp only)); refine box_event ?hg (N := 4) ?hd (cs := #[.int .i64 0, .int .i64 0, .int .i64 0, .int .i64 0, .int .i64 0]) (t := 109) ?hr ?_; (case hd => rfl); (case hg => rfl); (case hr => first | (go_simp; done) | (go_simp; rfl)); intro gb103 hg w9 hbox hb; have n0_ := Aside0.mk (blk_below (oB BK101.out) hb); have n1_ := Aside0.mk (below_step oL hb); have n2_ := Aside0.mk (hbox); have n3_ := Aside0.mk ((oS hg oL : w.heap.size ≤ gb103)); have n4_ := Aside0.mk ((oS hg oL : w.heap.size ≤ gb103)); have n5_ := Aside0.mk ((oN hg (oB BK101.out) : gb101 ≠ gb103)); have n6_ := Aside0.mk ((oM hg (oB BK101.out) : gb103 ≠ gb101)); clear BK101; clear HB; have BK101 := n0_; have HB := n1_; have BK103 := n2_; have GW103 := n3_; have GE103 := n4_; have NB101_103 := n5_; have NB103_101 := n6_; clear n0_ n1_ n2_ n3_ n4_ n5_ n6_; clear hb hbox hg; have hnb10 := NB103_101.out; have hnc10 := NB101_103.out; obtain ⟨hcz11_0, hcz11_1, hcz11_2, hcz11_3, hcz11_4⟩ := cz5 BK103.out; obtain ⟨hfz11_0, hfz11_1, hfz11_2, hfz11_3, hfz11_4⟩ := fz5 BK103.out) | ((with_reducible refine gate_callee (f := 90) rfl ?_); refine goesL_ (some 13) rfl rfl Try.func90 (by kernel_rfl) rfl #[.agg #[.int .i64 ((rd_T109 l0_1 x8_1).f0), .int .i64 ((rd_T109 l0_1 x8_1).f1), .int .i64 ((rd_T109 l0_1 x8_1).f2), .int .i64 ((rd_T109 l0_1 x8_1).f3), .int .i64 ((rd_T109 l0_1 x8_1).f4)]] rfl (by (try simp only [List.map_toArray, List.map_cons, List.map_nil]); first | done | rfl | (simp only [List.length_drop, List.length_take]; rfl)) ?_; (with_reducible refine (spec_l4Access.calls ((rd_T109 l0_1 x8_1).f0) ((rd_T109 l0_1 x8_1).f1) ((rd_T109 l0_1 x8_1).f2) ((rd_T109 l0_1 x8_1).f3) ((rd_T109 l0_1 x8_1).f4) true _ A7.out).mono ?_); rintro e w12 ⟨rfl, hb⟩; refine ⟨_, rfl, ?_⟩; have n0_ := Aside0.mk (blk_below (oG BK101.out NB101_103.out) hb); have n1_ := Aside0.mk (blk_below (g := gb103) (o := .cells #[.int .i64 ((rd_T109 l0_1 x8_1).f0), .int .i64 ((rd_T109 l0_1 x8_1).f1), .int .i64 ((rd_T109 l0_1 x8_1).f2), .int .i64 ((rd_T109 l0_1 x8_1).f3), .int .i64 ((rd_T109 l0_1 x8_1).f4)] 109 (0, 0)) (oP BK103.out) hb); have n2_ := Aside0.mk (below_step oL hb); clear BK101; clear BK103; clear HB; have BK101 := n0_; have BK103 := n1_; have HB := n2_; clear n0_ n1_ n2_; (try clear hb); (try clear hb2); (try clear hk); (try clear hi)))
       go_roundg k1; case measure => have := HK1.out; omega
       case rel => exact ⟨(wrap64 (x8_1 + 1)), (by first | rfl | (simp; done) | (simp [*]; done)), H', ⟨by have := HK1.out; omega⟩, ⟨by (with_reducible repeat (first | refine blk_drewN ?_ _ | refine blk_drew ?_ | refine blk_alloc ?_ _)); exact BK101.out⟩, ⟨by repeat (first | (with_reducible first | exact HB.out | apply below_alloc | apply pw_below_drewN | apply below_drew1 | refine below_set ?_ GE101.out | refine below_set ?_ GE103.out) | exact HB.out)⟩⟩
      ·
       replace c8 := Bool.eq_false_iff.mpr c8; subst c8; replace H := iF H; obtain rfl := Option.some.inj H; have p102 : 0 ≤ (x8_1 : Int) := of_decide_eq_true (by first | (with_reducible assumption) | assumption); have q102 : x8_1 < (l0_1.length : Int) := of_decide_eq_true (by first | (with_reducible assumption) | assumption); obtain ⟨ad102, e102, hx102_0, hx102_1, hx102_2, hx102_3, hx102_4⟩ := at_T109 HR0_1.out x8_1 p102 q102; cases e102
       replace hx102_0 := (HB.out.cell (World.block_lt_of_cell? w _ hx102_0)).trans hx102_0; replace hx102_1 := (HB.out.cell (World.block_lt_of_cell? w _ hx102_1)).trans hx102_1; replace hx102_2 := (HB.out.cell (World.block_lt_of_cell? w _ hx102_2)).trans hx102_2; replace hx102_3 := (HB.out.cell (World.block_lt_of_cell? w _ hx102_3)).trans hx102_3; replace hx102_4 := (HB.out.cell (World.block_lt_of_cell? w _ hx102_4)).trans hx102_4; replace p102 := eq_true p102; replace q102 := eq_true q102; go_wp2_with (first | ((with_reducible refine gate_dst (N := 4) rfl ?_); (try (refine gate_guard (by rfl) ?_; dsimp only)); refine box_event ?hg (N := 4) ?hd (cs := #[.int .i64 0, .int .i64 0, .int .i64 0, .int .i64 0, .int .i64 0]) (t := 109) ?hr ?_; (case hd => rfl); (case hg => rfl); (case hr => first | (go_simp; done) | (go_simp; rfl)); intro gb103 hg w13 hbox hb; have n0_ := Aside0.mk (blk_below (oB BK101.out) hb); have n1_ := Aside0.mk (below_step oL hb); have n2_ := Aside0.mk (hbox); have n3_ := Aside0.mk ((oS hg oL : w.heap.size ≤ gb103)); have n4_ := Aside0.mk ((oS hg oL : w.heap.size ≤ gb103)); have n5_ := Aside0.mk ((oN hg (oB BK101.out) : gb101 ≠ gb103)); have n6_ := Aside0.mk ((oM hg (oB BK101.out) : gb103 ≠ gb101)); clear BK101; clear HB; have BK101 := n0_; have HB := n1_; have BK103 := n2_; have GW103 := n3_; have GE103 := n4_; have NB101_103 := n5_; have NB103_101 := n6_; clear n0_ n1_ n2_ n3_ n4_ n5_ n6_; clear hb hbox hg; have hnb14 := NB103_101.out; have hnc14 := NB101_103.out; obtain ⟨hcz15_0, hcz15_1, hcz15_2, hcz15_3, hcz15_4⟩ := cz5 BK103.out; obtain ⟨hfz15_0, hfz15_1, hfz15_2, hfz15_3, hfz15_4⟩ := fz5 BK103.out) | ((with_reducible refine gate_callee (f := 90) rfl ?_); refine goesL_ (some 13) rfl rfl Try.func90 (by kernel_rfl) rfl #[.agg #[.int .i64 ((rd_T109 l0_1 x8_1).f0), .int .i64 ((rd_T109 l0_1 x8_1).f1), .int .i64 ((rd_T109 l0_1 x8_1).f2), .int .i64 ((rd_T109 l0_1 x8_1).f3), .int .i64 ((rd_T109 l0_1 x8_1).f4)]] rfl (by (try simp only [List.map_toArray, List.map_cons, List.map_nil]); first | done | rfl | (simp only [List.length_drop, List.length_take]; rfl)) ?_; (with_reducible refine (spec_l4Access.calls ((rd_T109 l0_1 x8_1).f0) ((rd_T109 l0_1 x8_1).f1) ((rd_T109 l0_1 x8_1).f2) ((rd_T109 l0_1 x8_1).f3) ((rd_T109 l0_1 x8_1).f4) false _ A7.out).mono ?_); rintro e w16 ⟨rfl, hb⟩; refine ⟨_, rfl, ?_⟩; have n0_ := Aside0.mk (blk_below (oG BK101.out NB101_103.out) hb); have n1_ := Aside0.mk (blk_below (g := gb103) (o := .cells #[.int .i64 ((rd_T109 l0_1 x8_1).f0), .int .i64 ((rd_T109 l0_1 x8_1).f1), .int .i64 ((rd_T109 l0_1 x8_1).f2), .int .i64 ((rd_T109 l0_1 x8_1).f3), .int .i64 ((rd_T109 l0_1 x8_1).f4)] 109 (0, 0)) (oP BK103.out) hb); have n2_ := Aside0.mk (below_step oL hb); clear BK101; clear BK103; clear HB; have BK101 := n0_; have BK103 := n1_; have HB := n2_; clear n0_ n1_ n2_; (try clear hb); (try clear hb2); (try clear hk); (try clear hi)))
       go_ret; exact ⟨oE, oL⟩
     · rw [if_neg c6] at H; exact absurd H (by simp)
    · rw [if_neg c5] at H; exact absurd H (by simp)
   ·
    rw [if_neg c4] at H; have c4b0 : decide (x8_1 < (l0_1.length : Int)) = false := decide_eq_false c4; clear c4; by_cases c17 : (l0_0.length : Int) = 512
    ·
     rw [if_pos c17] at H; obtain ⟨c17b0, c17b1⟩ := eT c17; clear c17; obtain ⟨t105, A180, H⟩ := bE H; have A18 := Aside0.mk A180; clear A180; by_cases c19 : t105 = true
     ·
      subst c19; replace H := iT H; obtain rfl := Option.some.inj H; obtain ⟨hcz20_0, hcz20_1⟩ := cz2 BK101.out; obtain ⟨hfz20_0, hfz20_1⟩ := fz2 BK101.out; go_wp2_with (first | (go_at_call 80; (with_reducible refine (spec_l4Bytes.calls k1 _ _ l0_0 true _ ?side1 ?side2 A18.out).mono ?_); (case side1 => exact oC HR0_0.out); (case side2 => exact HC0_0.out); rintro e w' ⟨rfl, ⟨nd, rfl⟩⟩))
      go_ret; exact ⟨oE, oL⟩
     ·
      replace c19 := Bool.eq_false_iff.mpr c19; subst c19; replace H := iF H; obtain rfl := Option.some.inj H; obtain ⟨hcz21_0, hcz21_1⟩ := cz2 BK101.out; obtain ⟨hfz21_0, hfz21_1⟩ := fz2 BK101.out; go_wp2_with (first | (go_at_call 80; (with_reducible refine (spec_l4Bytes.calls k1 _ _ l0_0 false _ ?side1 ?side2 A18.out).mono ?_); (case side1 => exact oC HR0_0.out); (case side2 => exact HC0_0.out); rintro e w' ⟨rfl, ⟨nd, rfl⟩⟩))
      go_ret; exact ⟨oE, oL⟩
    · rw [if_neg c17] at H; obtain ⟨c17b0, c17b1⟩ := eF c17; obtain rfl := Option.some.inj H; obtain ⟨hcz22_0, hcz22_1⟩ := cz2 BK101.out; obtain ⟨hfz22_0, hfz22_1⟩ := fz2 BK101.out; go_wp2; go_ret; exact ⟨oE, oL⟩

end Go.Proofs.Ytodmelfgkhebjaa.U
