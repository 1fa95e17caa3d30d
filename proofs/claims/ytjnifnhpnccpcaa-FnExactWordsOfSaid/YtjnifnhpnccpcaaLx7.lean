-- Made by this session's program gprint.py out of the translation. Not trusted: Lean checks it.
import Derived.Test.YtjnifnhpnccpcaaLx0
import Derived.Test.YtjnifnhpnccpcaaLx6
namespace Go.Proofs.Ytjnifnhpnccpcaa.L
open Go.RowKit Go.Proofs.YtjnifnhpnccpcaaW.PrintWords Go.Proofs.YtjnifnhpnccpcaaW.PrintLast Go.Proofs.YtjnifnhpnccpcaaW.PrintMore
attribute [local go_sem] max2_int min2_int max_two min_two max_three min_three max_four min_four   -- for this text's walks alone
set_option linter.unusedVariables false
set_option linter.unusedSimpArgs false

/-! ### spec_GoodIns: function 53 -/
mutual
def spec_GoodIns.j0 : Nat → Bool → Int → Int → Int → Int → Int → Int → Int → Option (Bool)
 | 0, _, _, _, _, _, _, _, _ => none
 | k + 1, x43, x102000, x102001, x102002, x102003, x102004, x102005, x102006 => if x43 = true then (some false) else (if x102000 = 1 then (spec_GoodIns.j1 k (x102001 == 2) x102003 x102000 (x102000 == 1) x102000 x102001 x102002 x102003 x102004 x102005 x102006) else (if x102000 = 3 then (spec_GoodIns.j1 k (x102001 == 2) x102003 x102000 (x102000 == 3) x102000 x102001 x102002 x102003 x102004 x102005 x102006) else (if x102000 = 4 then (spec_GoodIns.j1 k (x102001 == 2) x102003 x102000 (x102000 == 4) x102000 x102001 x102002 x102003 x102004 x102005 x102006) else (if x102000 = 5 then (spec_GoodIns.j1 k (x102001 == 2) x102003 x102000 (x102000 == 5) x102000 x102001 x102002 x102003 x102004 x102005 x102006) else (if x102000 = 6 then (spec_GoodIns.j1 k (x102001 == 2) x102003 x102000 (x102000 == 6) x102000 x102001 x102002 x102003 x102004 x102005 x102006) else (if x102000 = 7 then (spec_GoodIns.j1 k (x102001 == 2) x102003 x102000 (x102000 == 7) x102000 x102001 x102002 x102003 x102004 x102005 x102006) else (spec_GoodIns.j1 k (x102001 == 2) x102003 x102000 (x102000 == 8) x102000 x102001 x102002 x102003 x102004 x102005 x102006)))))))
def spec_GoodIns.j1 : Nat → Bool → Int → Int → Bool → Int → Int → Int → Int → Int → Int → Int → Option (Bool)
 | 0, _, _, _, _, _, _, _, _, _, _, _ => none
 | k + 1, x3, x4, x51, x52, x102000, x102001, x102002, x102003, x102004, x102005, x102006 => if x52 = true then (if x102006 = 0 then (if x3 = true then (some true) else (some (x4 != 1))) else (some false)) else (if x51 = 2 then (if x102006 = 0 then (if x4 = 0 then (some true) else ((spec_l7Memory.f x4).bind fun t106 => (some t106))) else (some false)) else (if x51 = 9 then (if x3 = true then (some (x102006 == 0)) else (some false)) else (if x51 = 10 then (if x3 = true then (if x102006 = 0 then ((spec_l7Plain.f x4).bind fun t107 => (some t107)) else (some false)) else (some false)) else (if x51 = 11 then (if x102002 = 0 then (if x102006 ≤ 3 then (if x4 = 0 then (some true) else ((spec_l7Memory.f x4).bind fun t108 => (some t108))) else (some false)) else (some false)) else (if x51 = 12 then (some (x4 == 0)) else (if x51 = 13 then (if x3 = true then (if x102002 ≤ 1 then (some (x4 == 7)) else (some false)) else (some false)) else (if x51 = 14 then (if x3 = true then (if x102002 = 0 then (if x102006 ≤ 1 then ((spec_l7Plain.f x4).bind fun t109 => (some t109)) else (some false)) else (some false)) else (some false)) else (if x51 = 16 then (spec_GoodIns.j2 k x3 x4 x51 (x51 == 16) x102000 x102001 x102002 x102003 x102004 x102005 x102006) else (spec_GoodIns.j2 k x3 x4 x51 (x51 == 17) x102000 x102001 x102002 x102003 x102004 x102005 x102006)))))))))
def spec_GoodIns.j2 : Nat → Bool → Int → Int → Bool → Int → Int → Int → Int → Int → Int → Int → Option (Bool)
 | 0, _, _, _, _, _, _, _, _, _, _, _ => none
 | k + 1, x3, x4, x51, x154, x102000, x102001, x102002, x102003, x102004, x102005, x102006 => if x154 = true then (if x3 = true then (if x102006 = 0 then (some (x4 != 1)) else (some false)) else (some false)) else (if x51 = 18 then (if x3 = true then (some false) else (if x102006 ≤ 1 then (some (x4 == 0)) else (some false))) else (if x51 = 19 then (if x3 = true then (if x102006 = 0 then (if x102002 = 0 then ((spec_l7Now.f x102003 x102004 x102005).bind fun t110 => (if t110 = true then (some true) else (if x102006 = 1 then ((spec_l7Zero.f x102003 x102004 x102005).bind fun t111 => (some t111)) else (some false)))) else (if x102006 = 1 then ((spec_l7Zero.f x102003 x102004 x102005).bind fun t112 => (some t112)) else (some false))) else (if x102006 = 1 then ((spec_l7Zero.f x102003 x102004 x102005).bind fun t113 => (some t113)) else (some false))) else (some false)) else (if x51 = 15 then (if x102006 = 3 then (if x3 = true then (if x102002 = 0 then ((spec_l7Now.f x102003 x102004 x102005).bind fun t114 => (some t114)) else (some false)) else (some false)) else (if x3 = true then (if x102006 ≤ 6 then ((spec_l7Zero.f x102003 x102004 x102005).bind fun t115 => (if t115 = true then (if x102006 > 3 then (some true) else (some (x102002 == 0))) else (some false))) else (some false)) else (some false))) else (some false))))
end
def spec_GoodIns.f (k : Nat) (a0_0 : Int) (a0_1 : Int) (a0_2 : Int) (a0_3 : Int) (a0_4 : Int) (a0_5 : Int) (a0_6 : Int) : Option (Bool) := (spec_l1Size.f a0_1).bind fun t102 => (if t102 = true then ((spec_l1In.f a0_2 0 3).bind fun t103 => (if t103 = true then ((spec_GoodOperand.f k a0_3 a0_4 a0_5).bind fun t104 => (if t104 = true then ((spec_l1In.f a0_6 0 7).bind fun t105 => (if t105 = true then (if a0_3 = 7 then (if a0_1 = 1 then (spec_GoodIns.j0 k (decide (a0_5 > 255)) a0_0 a0_1 a0_2 a0_3 a0_4 a0_5 a0_6) else (spec_GoodIns.j0 k false a0_0 a0_1 a0_2 a0_3 a0_4 a0_5 a0_6)) else (spec_GoodIns.j0 k false a0_0 a0_1 a0_2 a0_3 a0_4 a0_5 a0_6)) else (spec_GoodIns.j0 k true a0_0 a0_1 a0_2 a0_3 a0_4 a0_5 a0_6))) else (spec_GoodIns.j0 k true a0_0 a0_1 a0_2 a0_3 a0_4 a0_5 a0_6))) else (spec_GoodIns.j0 k true a0_0 a0_1 a0_2 a0_3 a0_4 a0_5 a0_6))) else (spec_GoodIns.j0 k true a0_0 a0_1 a0_2 a0_3 a0_4 a0_5 a0_6))
theorem spec_GoodIns.mono_l : ∀ k, (∀ y0 y1 y2 y3 y4 y5 y6 y7, LeO (spec_GoodIns.j0 k y0 y1 y2 y3 y4 y5 y6 y7) (spec_GoodIns.j0 (k + 1) y0 y1 y2 y3 y4 y5 y6 y7)) ∧ (∀ y0 y1 y2 y3 y4 y5 y6 y7 y8 y9 y10, LeO (spec_GoodIns.j1 k y0 y1 y2 y3 y4 y5 y6 y7 y8 y9 y10) (spec_GoodIns.j1 (k + 1) y0 y1 y2 y3 y4 y5 y6 y7 y8 y9 y10)) ∧ (∀ y0 y1 y2 y3 y4 y5 y6 y7 y8 y9 y10, LeO (spec_GoodIns.j2 k y0 y1 y2 y3 y4 y5 y6 y7 y8 y9 y10) (spec_GoodIns.j2 (k + 1) y0 y1 y2 y3 y4 y5 y6 y7 y8 y9 y10))
 | 0 => ⟨fun _ _ _ _ _ _ _ _ r h => by simp [spec_GoodIns.j0] at h, fun _ _ _ _ _ _ _ _ _ _ _ r h => by simp [spec_GoodIns.j1] at h, fun _ _ _ _ _ _ _ _ _ _ _ r h => by simp [spec_GoodIns.j2] at h⟩
 | k + 1 => by
  obtain ⟨ih0, ih1, ih2⟩ := spec_GoodIns.mono_l k
  refine ⟨?_, ?_, ?_⟩
  ·
   intro y0 y1 y2 y3 y4 y5 y6 y7
   unfold spec_GoodIns.j0
   repeat' first
   | (with_reducible exact ih0 _ _ _ _ _ _ _ _)
   | (with_reducible exact ih1 _ _ _ _ _ _ _ _ _ _ _)
   | (with_reducible exact ih2 _ _ _ _ _ _ _ _ _ _ _)
   | (with_reducible exact spec_GoodOperand.mono _ _ _ _)
   | (with_reducible exact LeO.refl _)
   | (with_reducible exact LeO.none _)
   | (with_reducible refine LeO.ite ?_ ?_)
   | (with_reducible refine LeO.bind ?_ (fun _ => ?_))
   | exact ih0 _ _ _ _ _ _ _ _
   | exact ih1 _ _ _ _ _ _ _ _ _ _ _
   | exact ih2 _ _ _ _ _ _ _ _ _ _ _
   | exact spec_GoodOperand.mono _ _ _ _
   | exact LeO.none _
   | refine LeO.ite ?_ ?_
   | refine LeO.bind ?_ (fun _ => ?_)
  ·
   intro y0 y1 y2 y3 y4 y5 y6 y7 y8 y9 y10
   unfold spec_GoodIns.j1
   repeat' first
   | (with_reducible exact ih0 _ _ _ _ _ _ _ _)
   | (with_reducible exact ih1 _ _ _ _ _ _ _ _ _ _ _)
   | (with_reducible exact ih2 _ _ _ _ _ _ _ _ _ _ _)
   | (with_reducible exact spec_GoodOperand.mono _ _ _ _)
   | (with_reducible exact LeO.refl _)
   | (with_reducible exact LeO.none _)
   | (with_reducible refine LeO.ite ?_ ?_)
   | (with_reducible refine LeO.bind ?_ (fun _ => ?_))
   | exact ih0 _ _ _ _ _ _ _ _
   | exact ih1 _ _ _ _ _ _ _ _ _ _ _
   | exact ih2 _ _ _ _ _ _ _ _ _ _ _
   | exact spec_GoodOperand.mono _ _ _ _
   | exact LeO.none _
   | refine LeO.ite ?_ ?_
   | refine LeO.bind ?_ (fun _ => ?_)
  ·
   intro y0 y1 y2 y3 y4 y5 y6 y7 y8 y9 y10
   unfold spec_GoodIns.j2
   repeat' first
   | (with_reducible exact ih0 _ _ _ _ _ _ _ _)
   | (with_reducible exact ih1 _ _ _ _ _ _ _ _ _ _ _)
   | (with_reducible exact ih2 _ _ _ _ _ _ _ _ _ _ _)
   | (with_reducible exact spec_GoodOperand.mono _ _ _ _)
   | (with_reducible exact LeO.refl _)
   | (with_reducible exact LeO.none _)
   | (with_reducible refine LeO.ite ?_ ?_)
   | (with_reducible refine LeO.bind ?_ (fun _ => ?_))
   | exact ih0 _ _ _ _ _ _ _ _
   | exact ih1 _ _ _ _ _ _ _ _ _ _ _
   | exact ih2 _ _ _ _ _ _ _ _ _ _ _
   | exact spec_GoodOperand.mono _ _ _ _
   | exact LeO.none _
   | refine LeO.ite ?_ ?_
   | refine LeO.bind ?_ (fun _ => ?_)
theorem spec_GoodIns.mono : ∀ a0 a1 a2 a3 a4 a5 a6 k, LeO (spec_GoodIns.f k a0 a1 a2 a3 a4 a5 a6) (spec_GoodIns.f (k + 1) a0 a1 a2 a3 a4 a5 a6) := by
 intro a0 a1 a2 a3 a4 a5 a6 k
 obtain ⟨ih0, ih1, ih2⟩ := spec_GoodIns.mono_l k
 unfold spec_GoodIns.f
 repeat' first
   | (with_reducible exact ih0 _ _ _ _ _ _ _ _)
   | (with_reducible exact ih1 _ _ _ _ _ _ _ _ _ _ _)
   | (with_reducible exact ih2 _ _ _ _ _ _ _ _ _ _ _)
   | (with_reducible exact spec_GoodOperand.mono _ _ _ _)
   | (with_reducible exact LeO.refl _)
   | (with_reducible exact LeO.none _)
   | (with_reducible refine LeO.ite ?_ ?_)
   | (with_reducible refine LeO.bind ?_ (fun _ => ?_))
   | exact ih0 _ _ _ _ _ _ _ _
   | exact ih1 _ _ _ _ _ _ _ _ _ _ _
   | exact ih2 _ _ _ _ _ _ _ _ _ _ _
   | exact spec_GoodOperand.mono _ _ _ _
   | exact LeO.none _
   | refine LeO.ite ?_ ?_
   | refine LeO.bind ?_ (fun _ => ?_)
set_option maxHeartbeats 8000000 in
set_option maxRecDepth 100000 in
theorem spec_GoodIns.calls (k : Nat) (a0_0 : Int) (a0_1 : Int) (a0_2 : Int) (a0_3 : Int) (a0_4 : Int) (a0_5 : Int) (a0_6 : Int) (r : Bool) (w : World) (h : spec_GoodIns.f k a0_0 a0_1 a0_2 a0_3 a0_4 a0_5 a0_6 = some r) :
  Calls Try.prog 53 #[.agg #[.int .i64 a0_0, .int .i64 a0_1, .int .i64 a0_2, .int .i64 a0_3, .int .i64 a0_4, .int .i64 a0_5, .int .i64 a0_6]] w fun e w' => e = .returned (.bool r) ∧ Below w.heap.size w w' := by
 have hu77 := Try.underlying77; have hu75 := Try.underlying75; have HB := Aside0.mk (Below.refl w.heap.size w); have H : ((spec_l1Size.f a0_1).bind fun t102 => (if t102 = true then ((spec_l1In.f a0_2 0 3).bind fun t103 => (if t103 = true then ((spec_GoodOperand.f k a0_3 a0_4 a0_5).bind fun t104 => (if t104 = true then ((spec_l1In.f a0_6 0 7).bind fun t105 => (if t105 = true then (if a0_3 = 7 then (if a0_1 = 1 then (spec_GoodIns.j0 k (decide (a0_5 > 255)) a0_0 a0_1 a0_2 a0_3 a0_4 a0_5 a0_6) else (spec_GoodIns.j0 k false a0_0 a0_1 a0_2 a0_3 a0_4 a0_5 a0_6)) else (spec_GoodIns.j0 k false a0_0 a0_1 a0_2 a0_3 a0_4 a0_5 a0_6)) else (spec_GoodIns.j0 k true a0_0 a0_1 a0_2 a0_3 a0_4 a0_5 a0_6))) else (spec_GoodIns.j0 k true a0_0 a0_1 a0_2 a0_3 a0_4 a0_5 a0_6))) else (spec_GoodIns.j0 k true a0_0 a0_1 a0_2 a0_3 a0_4 a0_5 a0_6))) else (spec_GoodIns.j0 k true a0_0 a0_1 a0_2 a0_3 a0_4 a0_5 a0_6))) = some r := h; clear h; have HC2 := Aside0.mk H; clear H; go_enter Try.func53, Try.ntmps53; go_upto_region 1 with (first | ((with_reducible refine gate_dst (N := 1) rfl ?_); refine boxE (w := w) oL (cs := #[.int .i64 a0_0, .int .i64 a0_1, .int .i64 a0_2, .int .i64 a0_3, .int .i64 a0_4, .int .i64 a0_5, .int .i64 a0_6]) (t := 77) ?_; clear HB; intro gb101 w3 HB BK101 GW101; have GE101 := GW101))
 (try simp only [Act.put, List.setIfInBounds_toArray, List.set_cons_zero, List.set_cons_succ]); go_cut [43] (fun v43 wc => ∃ (kq : Nat) (x43_1 : Bool), v43 = .bool x43_1 ∧ Aside0 (spec_GoodIns.j0 kq x43_1 a0_0 a0_1 a0_2 a0_3 a0_4 a0_5 a0_6 = some r) ∧ Aside0 (kq ≤ k) ∧ Aside0 (wc.heap[gb101]? = some (.cells #[.int .i64 a0_0, .int .i64 a0_1, .int .i64 a0_2, .int .i64 a0_3, .int .i64 a0_4, .int .i64 a0_5, .int .i64 a0_6] 77 (0, 0))) ∧ Aside0 (Below w.heap.size w wc))
 case first =>
  have H := HC2.out; clear HC2; obtain ⟨t102, A40, H⟩ := bE H; have A4 := Aside0.mk A40; clear A40; by_cases c5 : t102 = true
  ·
   subst c5; replace H := iT H; obtain ⟨t103, A60, H⟩ := bE H; have A6 := Aside0.mk A60; clear A60; by_cases c7 : t103 = true
   ·
    subst c7; replace H := iT H; obtain ⟨t104, A80, H⟩ := bE H; have A8 := Aside0.mk A80; clear A80; by_cases c9 : t104 = true
    ·
     subst c9; replace H := iT H; obtain ⟨t105, A100, H⟩ := bE H; have A10 := Aside0.mk A100; clear A100; by_cases c11 : t105 = true
     ·
      subst c11; replace H := iT H; by_cases c12 : a0_3 = 7
      ·
       rw [if_pos c12] at H; obtain ⟨c12b0, c12b1⟩ := eT c12; clear c12; (first | rw [c12b0] | (simp only [i64_w, i32_w]; rw [c12b0]) | skip); by_cases c13 : a0_1 = 1
       ·
        rw [if_pos c13] at H; obtain ⟨c13b0, c13b1⟩ := eT c13; clear c13; have H' := Aside0.mk H; clear H; obtain ⟨hcz14_0, hcz14_1, hcz14_2, hcz14_3, hcz14_4, hcz14_5, hcz14_6⟩ := cz7 BK101.out; obtain ⟨hfz14_0, hfz14_1, hfz14_2, hfz14_3, hfz14_4, hfz14_5, hfz14_6⟩ := fz7 BK101.out
        as_aux_lemma =>
         go_wp2_with (first | ((with_reducible refine gate_callee (f := 66) rfl ?_); refine goesQ (some 7) Try.func66 #[.int .i64 a0_1] (spec_l1Size.calls a0_1 true _ A4.out) fun nd => ?_) | (go_at_call 52; (with_reducible refine (spec_l1In.calls a0_2 0 3 true _ A6.out).mono ?_); rintro e w' ⟨rfl, ⟨nd, rfl⟩⟩) | (go_at_call 101; (with_reducible refine (spec_GoodOperand.calls k a0_3 a0_4 a0_5 true _ A8.out).mono ?_); rintro e w15 ⟨rfl, hb⟩; have n0_ := Aside0.mk (blk_below (oB BK101.out) hb); have n1_ := Aside0.mk (below_step oL hb); clear BK101; clear HB; have BK101 := n0_; have HB := n1_; clear n0_ n1_; (try clear hb); (try clear hb2); (try clear hk); (try clear hi); obtain ⟨hcz16_0, hcz16_1, hcz16_2, hcz16_3, hcz16_4, hcz16_5, hcz16_6⟩ := cz7 BK101.out; obtain ⟨hfz16_0, hfz16_1, hfz16_2, hfz16_3, hfz16_4, hfz16_5, hfz16_6⟩ := fz7 BK101.out) | (go_at_call 52; (with_reducible refine (spec_l1In.calls a0_6 0 7 true _ A10.out).mono ?_); rintro e w' ⟨rfl, ⟨nd, rfl⟩⟩))
         go_meet; case rel => exact ⟨_, (decide (a0_5 > 255)), (by first | rfl | (simp; done) | (simp [*]; done)), H', ⟨by first | omega | exact Nat.le_refl _⟩, ⟨by (with_reducible repeat (first | refine blk_drewN ?_ _ | refine blk_drew ?_ | refine blk_alloc ?_ _)); exact BK101.out⟩, ⟨by repeat (first | (with_reducible first | exact HB.out | apply below_alloc | apply pw_below_drewN | apply below_drew1 | refine below_set ?_ GE101.out) | exact HB.out)⟩⟩
       ·
        rw [if_neg c13] at H; obtain ⟨c13b0, c13b1⟩ := eF c13; have H' := Aside0.mk H; clear H; obtain ⟨hcz17_0, hcz17_1, hcz17_2, hcz17_3, hcz17_4, hcz17_5, hcz17_6⟩ := cz7 BK101.out; obtain ⟨hfz17_0, hfz17_1, hfz17_2, hfz17_3, hfz17_4, hfz17_5, hfz17_6⟩ := fz7 BK101.out
        as_aux_lemma =>
         go_wp2_with (first | ((with_reducible refine gate_callee (f := 66) rfl ?_); refine goesQ (some 7) Try.func66 #[.int .i64 a0_1] (spec_l1Size.calls a0_1 true _ A4.out) fun nd => ?_) | (go_at_call 52; (with_reducible refine (spec_l1In.calls a0_2 0 3 true _ A6.out).mono ?_); rintro e w' ⟨rfl, ⟨nd, rfl⟩⟩) | (go_at_call 101; (with_reducible refine (spec_GoodOperand.calls k a0_3 a0_4 a0_5 true _ A8.out).mono ?_); rintro e w18 ⟨rfl, hb⟩; have n0_ := Aside0.mk (blk_below (oB BK101.out) hb); have n1_ := Aside0.mk (below_step oL hb); clear BK101; clear HB; have BK101 := n0_; have HB := n1_; clear n0_ n1_; (try clear hb); (try clear hb2); (try clear hk); (try clear hi); obtain ⟨hcz19_0, hcz19_1, hcz19_2, hcz19_3, hcz19_4, hcz19_5, hcz19_6⟩ := cz7 BK101.out; obtain ⟨hfz19_0, hfz19_1, hfz19_2, hfz19_3, hfz19_4, hfz19_5, hfz19_6⟩ := fz7 BK101.out) | (go_at_call 52; (with_reducible refine (spec_l1In.calls a0_6 0 7 true _ A10.out).mono ?_); rintro e w' ⟨rfl, ⟨nd, rfl⟩⟩))
         go_meet; case rel => exact ⟨_, (false), (by first | rfl | (simp; done) | (simp [*]; done)), H', ⟨by first | omega | exact Nat.le_refl _⟩, ⟨by (with_reducible repeat (first | refine blk_drewN ?_ _ | refine blk_drew ?_ | refine blk_alloc ?_ _)); exact BK101.out⟩, ⟨by repeat (first | (with_reducible first | exact HB.out | apply below_alloc | apply pw_below_drewN | apply below_drew1 | refine below_set ?_ GE101.out) | exact HB.out)⟩⟩
      ·
       rw [if_neg c12] at H; obtain ⟨c12b0, c12b1⟩ := eF c12; (first | rw [c12b0] | (simp only [i64_w, i32_w]; rw [c12b0]) | skip); have H' := Aside0.mk H; clear H; obtain ⟨hcz20_0, hcz20_1, hcz20_2, hcz20_3, hcz20_4, hcz20_5, hcz20_6⟩ := cz7 BK101.out; obtain ⟨hfz20_0, hfz20_1, hfz20_2, hfz20_3, hfz20_4, hfz20_5, hfz20_6⟩ := fz7 BK101.out
       as_aux_lemma =>
        go_wp2_with (first | ((with_reducible refine gate_callee (f := 66) rfl ?_); refine goesQ (some 7) Try.func66 #[.int .i64 a0_1] (spec_l1Size.calls a0_1 true _ A4.out) fun nd => ?_) | (go_at_call 52; (with_reducible refine (spec_l1In.calls a0_2 0 3 true _ A6.out).mono ?_); rintro e w' ⟨rfl, ⟨nd, rfl⟩⟩) | (go_at_call 101; (with_reducible refine (spec_GoodOperand.calls k a0_3 a0_4 a0_5 true _ A8.out).mono ?_); rintro e w21 ⟨rfl, hb⟩; have n0_ := Aside0.mk (blk_below (oB BK101.out) hb); have n1_ := Aside0.mk (below_step oL hb); clear BK101; clear HB; have BK101 := n0_; have HB := n1_; clear n0_ n1_; (try clear hb); (try clear hb2); (try clear hk); (try clear hi); obtain ⟨hcz22_0, hcz22_1, hcz22_2, hcz22_3, hcz22_4, hcz22_5, hcz22_6⟩ := cz7 BK101.out; obtain ⟨hfz22_0, hfz22_1, hfz22_2, hfz22_3, hfz22_4, hfz22_5, hfz22_6⟩ := fz7 BK101.out) | (go_at_call 52; (with_reducible refine (spec_l1In.calls a0_6 0 7 true _ A10.out).mono ?_); rintro e w' ⟨rfl, ⟨nd, rfl⟩⟩))
        go_meet; case rel => exact ⟨_, (false), (by first | rfl | (simp; done) | (simp [*]; done)), H', ⟨by first | omega | exact Nat.le_refl _⟩, ⟨by (with_reducible repeat (first | refine blk_drewN ?_ _ | refine blk_drew ?_ | refine blk_alloc ?_ _)); exact BK101.out⟩, ⟨by repeat (first | (with_reducible first | exact HB.out | apply below_alloc | apply pw_below_drewN | apply below_drew1 | refine below_set ?_ GE101.out) | exact HB.out)⟩⟩
     ·
      replace c11 := Bool.eq_false_iff.mpr c11; subst c11; replace H := iF H; have H' := Aside0.mk H; clear H; obtain ⟨hcz23_0, hcz23_1, hcz23_2, hcz23_3, hcz23_4, hcz23_5, hcz23_6⟩ := cz7 BK101.out; obtain ⟨hfz23_0, hfz23_1, hfz23_2, hfz23_3, hfz23_4, hfz23_5, hfz23_6⟩ := fz7 BK101.out
      as_aux_lemma =>
       go_wp2_with (first | ((with_reducible refine gate_callee (f := 66) rfl ?_); refine goesQ (some 7) Try.func66 #[.int .i64 a0_1] (spec_l1Size.calls a0_1 true _ A4.out) fun nd => ?_) | (go_at_call 52; (with_reducible refine (spec_l1In.calls a0_2 0 3 true _ A6.out).mono ?_); rintro e w' ⟨rfl, ⟨nd, rfl⟩⟩) | (go_at_call 101; (with_reducible refine (spec_GoodOperand.calls k a0_3 a0_4 a0_5 true _ A8.out).mono ?_); rintro e w24 ⟨rfl, hb⟩; have n0_ := Aside0.mk (blk_below (oB BK101.out) hb); have n1_ := Aside0.mk (below_step oL hb); clear BK101; clear HB; have BK101 := n0_; have HB := n1_; clear n0_ n1_; (try clear hb); (try clear hb2); (try clear hk); (try clear hi); obtain ⟨hcz25_0, hcz25_1, hcz25_2, hcz25_3, hcz25_4, hcz25_5, hcz25_6⟩ := cz7 BK101.out; obtain ⟨hfz25_0, hfz25_1, hfz25_2, hfz25_3, hfz25_4, hfz25_5, hfz25_6⟩ := fz7 BK101.out) | (go_at_call 52; (with_reducible refine (spec_l1In.calls a0_6 0 7 false _ A10.out).mono ?_); rintro e w' ⟨rfl, ⟨nd, rfl⟩⟩))
       go_meet; case rel => exact ⟨_, (true), (by first | rfl | (simp; done) | (simp [*]; done)), H', ⟨by first | omega | exact Nat.le_refl _⟩, ⟨by (with_reducible repeat (first | refine blk_drewN ?_ _ | refine blk_drew ?_ | refine blk_alloc ?_ _)); exact BK101.out⟩, ⟨by repeat (first | (with_reducible first | exact HB.out | apply below_alloc | apply pw_below_drewN | apply below_drew1 | refine below_set ?_ GE101.out) | exact HB.out)⟩⟩
    ·
     replace c9 := Bool.eq_false_iff.mpr c9; subst c9; replace H := iF H; have H' := Aside0.mk H; clear H; obtain ⟨hcz26_0, hcz26_1, hcz26_2, hcz26_3, hcz26_4, hcz26_5, hcz26_6⟩ := cz7 BK101.out; obtain ⟨hfz26_0, hfz26_1, hfz26_2, hfz26_3, hfz26_4, hfz26_5, hfz26_6⟩ := fz7 BK101.out
     as_aux_lemma =>
      go_wp2_with (first | ((with_reducible refine gate_callee (f := 66) rfl ?_); refine goesQ (some 7) Try.func66 #[.int .i64 a0_1] (spec_l1Size.calls a0_1 true _ A4.out) fun nd => ?_) | (go_at_call 52; (with_reducible refine (spec_l1In.calls a0_2 0 3 true _ A6.out).mono ?_); rintro e w' ⟨rfl, ⟨nd, rfl⟩⟩) | (go_at_call 101; (with_reducible refine (spec_GoodOperand.calls k a0_3 a0_4 a0_5 false _ A8.out).mono ?_); rintro e w27 ⟨rfl, hb⟩; have n0_ := Aside0.mk (blk_below (oB BK101.out) hb); have n1_ := Aside0.mk (below_step oL hb); clear BK101; clear HB; have BK101 := n0_; have HB := n1_; clear n0_ n1_; (try clear hb); (try clear hb2); (try clear hk); (try clear hi)))
      go_meet; case rel => exact ⟨_, (true), (by first | rfl | (simp; done) | (simp [*]; done)), H', ⟨by first | omega | exact Nat.le_refl _⟩, ⟨by (with_reducible repeat (first | refine blk_drewN ?_ _ | refine blk_drew ?_ | refine blk_alloc ?_ _)); exact BK101.out⟩, ⟨by repeat (first | (with_reducible first | exact HB.out | apply below_alloc | apply pw_below_drewN | apply below_drew1 | refine below_set ?_ GE101.out) | exact HB.out)⟩⟩
   ·
    replace c7 := Bool.eq_false_iff.mpr c7; subst c7; replace H := iF H; have H' := Aside0.mk H; clear H; obtain ⟨hcz28_0, hcz28_1, hcz28_2, hcz28_3, hcz28_4, hcz28_5, hcz28_6⟩ := cz7 BK101.out; obtain ⟨hfz28_0, hfz28_1, hfz28_2, hfz28_3, hfz28_4, hfz28_5, hfz28_6⟩ := fz7 BK101.out
    as_aux_lemma =>
     go_wp2_with (first | ((with_reducible refine gate_callee (f := 66) rfl ?_); refine goesQ (some 7) Try.func66 #[.int .i64 a0_1] (spec_l1Size.calls a0_1 true _ A4.out) fun nd => ?_) | (go_at_call 52; (with_reducible refine (spec_l1In.calls a0_2 0 3 false _ A6.out).mono ?_); rintro e w' ⟨rfl, ⟨nd, rfl⟩⟩))
     go_meet; case rel => exact ⟨_, (true), (by first | rfl | (simp; done) | (simp [*]; done)), H', ⟨by first | omega | exact Nat.le_refl _⟩, ⟨by (with_reducible repeat (first | refine blk_drewN ?_ _ | refine blk_drew ?_ | refine blk_alloc ?_ _)); exact BK101.out⟩, ⟨by repeat (first | (with_reducible first | exact HB.out | apply below_alloc | apply pw_below_drewN | apply below_drew1 | refine below_set ?_ GE101.out) | exact HB.out)⟩⟩
  ·
   replace c5 := Bool.eq_false_iff.mpr c5; subst c5; replace H := iF H; have H' := Aside0.mk H; clear H; obtain ⟨hcz29_0, hcz29_1, hcz29_2, hcz29_3, hcz29_4, hcz29_5, hcz29_6⟩ := cz7 BK101.out; obtain ⟨hfz29_0, hfz29_1, hfz29_2, hfz29_3, hfz29_4, hfz29_5, hfz29_6⟩ := fz7 BK101.out
   as_aux_lemma =>
    go_wp2_with (first | ((with_reducible refine gate_callee (f := 66) rfl ?_); refine goesQ (some 7) Try.func66 #[.int .i64 a0_1] (spec_l1Size.calls a0_1 false _ A4.out) fun nd => ?_))
    go_meet; case rel => exact ⟨_, (true), (by first | rfl | (simp; done) | (simp [*]; done)), H', ⟨by first | omega | exact Nat.le_refl _⟩, ⟨by (with_reducible repeat (first | refine blk_drewN ?_ _ | refine blk_drew ?_ | refine blk_alloc ?_ _)); exact BK101.out⟩, ⟨by repeat (first | (with_reducible first | exact HB.out | apply below_alloc | apply pw_below_drewN | apply below_drew1 | refine below_set ?_ GE101.out) | exact HB.out)⟩⟩
 case rest =>
  as_aux_lemma =>
   clear HC2; (try clear c1); (try clear p2); (try clear c5); (try clear c6); (try clear c7); (try clear c9); (try clear c11); (try clear c12); (try clear c12b0); (try clear c12b1); (try clear c13); (try clear c13b0); (try clear c13b1); (try clear hcz14_0 hcz14_1 hcz14_2 hcz14_3 hcz14_4 hcz14_5 hcz14_6); (try clear hcz16_0 hcz16_1 hcz16_2 hcz16_3 hcz16_4 hcz16_5 hcz16_6); (try clear hcz17_0 hcz17_1 hcz17_2 hcz17_3 hcz17_4 hcz17_5 hcz17_6); (try clear hcz19_0 hcz19_1 hcz19_2 hcz19_3 hcz19_4 hcz19_5 hcz19_6); (try clear hcz20_0 hcz20_1 hcz20_2 hcz20_3 hcz20_4 hcz20_5 hcz20_6); (try clear hcz22_0 hcz22_1 hcz22_2 hcz22_3 hcz22_4 hcz22_5 hcz22_6); (try clear hcz23_0 hcz23_1 hcz23_2 hcz23_3 hcz23_4 hcz23_5 hcz23_6); (try clear hcz25_0 hcz25_1 hcz25_2 hcz25_3 hcz25_4 hcz25_5 hcz25_6); (try clear hcz26_0 hcz26_1 hcz26_2 hcz26_3 hcz26_4 hcz26_5 hcz26_6); (try clear hcz28_0 hcz28_1 hcz28_2 hcz28_3 hcz28_4 hcz28_5 hcz28_6); (try clear hcz29_0 hcz29_1 hcz29_2 hcz29_3 hcz29_4 hcz29_5 hcz29_6); (try clear hfz14_0 hfz14_1 hfz14_2 hfz14_3 hfz14_4 hfz14_5 hfz14_6); (try clear hfz16_0 hfz16_1 hfz16_2 hfz16_3 hfz16_4 hfz16_5 hfz16_6); (try clear hfz17_0 hfz17_1 hfz17_2 hfz17_3 hfz17_4 hfz17_5 hfz17_6); (try clear hfz19_0 hfz19_1 hfz19_2 hfz19_3 hfz19_4 hfz19_5 hfz19_6); (try clear hfz20_0 hfz20_1 hfz20_2 hfz20_3 hfz20_4 hfz20_5 hfz20_6); (try clear hfz22_0 hfz22_1 hfz22_2 hfz22_3 hfz22_4 hfz22_5 hfz22_6); (try clear hfz23_0 hfz23_1 hfz23_2 hfz23_3 hfz23_4 hfz23_5 hfz23_6); (try clear hfz25_0 hfz25_1 hfz25_2 hfz25_3 hfz25_4 hfz25_5 hfz25_6); (try clear hfz26_0 hfz26_1 hfz26_2 hfz26_3 hfz26_4 hfz26_5 hfz26_6); (try clear hfz28_0 hfz28_1 hfz28_2 hfz28_3 hfz28_4 hfz28_5 hfz28_6); (try clear hfz29_0 hfz29_1 hfz29_2 hfz29_3 hfz29_4 hfz29_5 hfz29_6); obtain ⟨kq, x43_1, rfl, HA, HJ1, BK101, HB⟩ := hcut; cases kq with
   | zero => exact absurd HA.out (by simp [spec_GoodIns.j0])
   | succ kj1 =>
    have H := HA.out; clear HA; simp only [spec_GoodIns.j0] at H; by_cases c30 : x43_1 = true
    ·
     subst c30; replace H := iT H; obtain rfl := Option.some.inj H
     as_aux_lemma =>
      go_wp2; go_ret; exact ⟨oE, oL⟩
    ·
     replace c30 := Bool.eq_false_iff.mpr c30; subst c30; replace H := iF H; have HC31 := Aside0.mk H; clear H; obtain ⟨hcz32_0, hcz32_1, hcz32_2, hcz32_3, hcz32_4, hcz32_5, hcz32_6⟩ := cz7 BK101.out; obtain ⟨hfz32_0, hfz32_1, hfz32_2, hfz32_3, hfz32_4, hfz32_5, hfz32_6⟩ := fz7 BK101.out; go_upto_if 52 with (fail)
     go_cut [52] (fun v52 wc => ∃ (kq : Nat) (x52_30 : Bool), v52 = .bool x52_30 ∧ Aside0 (spec_GoodIns.j1 kq (a0_1 == 2) a0_3 a0_0 x52_30 a0_0 a0_1 a0_2 a0_3 a0_4 a0_5 a0_6 = some r) ∧ Aside0 (kq ≤ kj1) ∧ Aside0 (wc.heap[gb101]? = some (.cells #[.int .i64 a0_0, .int .i64 a0_1, .int .i64 a0_2, .int .i64 a0_3, .int .i64 a0_4, .int .i64 a0_5, .int .i64 a0_6] 77 (0, 0))) ∧ Aside0 (Below w.heap.size w wc))
     case first =>
      have H := HC31.out; clear HC31; by_cases c33 : a0_0 = 1
      ·
       rw [if_pos c33] at H; obtain ⟨c33b0, c33b1⟩ := eT c33; clear c33; (first | rw [c33b0] | (simp only [i64_w, i32_w]; rw [c33b0]) | skip); have H' := Aside0.mk H; clear H
       as_aux_lemma =>
        go_wp2; go_meet; case rel => exact ⟨_, ((a0_0 == 1)), (by first | rfl | (simp; done) | (simp [*]; done)), H', ⟨by have := HJ1.out; first | omega | exact Nat.le_refl _⟩, ⟨by (with_reducible repeat (first | refine blk_drewN ?_ _ | refine blk_drew ?_ | refine blk_alloc ?_ _)); exact BK101.out⟩, ⟨by repeat (first | (with_reducible first | exact HB.out | apply below_alloc | apply pw_below_drewN | apply below_drew1 | refine below_set ?_ GE101.out) | exact HB.out)⟩⟩
      ·
       rw [if_neg c33] at H; obtain ⟨c33b0, c33b1⟩ := eF c33; (first | rw [c33b0] | (simp only [i64_w, i32_w]; rw [c33b0]) | skip); by_cases c34 : a0_0 = 3
       ·
        rw [if_pos c34] at H; obtain ⟨c34b0, c34b1⟩ := eT c34; clear c34; have H' := Aside0.mk H; clear H
        as_aux_lemma =>
         go_wp2; go_meet; case rel => exact ⟨_, ((a0_0 == 3)), (by first | rfl | (simp; done) | (simp [*]; done)), H', ⟨by have := HJ1.out; first | omega | exact Nat.le_refl _⟩, ⟨by (with_reducible repeat (first | refine blk_drewN ?_ _ | refine blk_drew ?_ | refine blk_alloc ?_ _)); exact BK101.out⟩, ⟨by repeat (first | (with_reducible first | exact HB.out | apply below_alloc | apply pw_below_drewN | apply below_drew1 | refine below_set ?_ GE101.out) | exact HB.out)⟩⟩
       ·
        rw [if_neg c34] at H; obtain ⟨c34b0, c34b1⟩ := eF c34; by_cases c35 : a0_0 = 4
        ·
         rw [if_pos c35] at H; obtain ⟨c35b0, c35b1⟩ := eT c35; clear c35; have H' := Aside0.mk H; clear H
         as_aux_lemma =>
          go_wp2; go_meet; case rel => exact ⟨_, ((a0_0 == 4)), (by first | rfl | (simp; done) | (simp [*]; done)), H', ⟨by have := HJ1.out; first | omega | exact Nat.le_refl _⟩, ⟨by (with_reducible repeat (first | refine blk_drewN ?_ _ | refine blk_drew ?_ | refine blk_alloc ?_ _)); exact BK101.out⟩, ⟨by repeat (first | (with_reducible first | exact HB.out | apply below_alloc | apply pw_below_drewN | apply below_drew1 | refine below_set ?_ GE101.out) | exact HB.out)⟩⟩
        ·
         rw [if_neg c35] at H; obtain ⟨c35b0, c35b1⟩ := eF c35; by_cases c36 : a0_0 = 5
         ·
          rw [if_pos c36] at H; obtain ⟨c36b0, c36b1⟩ := eT c36; clear c36; have H' := Aside0.mk H; clear H
          as_aux_lemma =>
           go_wp2; go_meet; case rel => exact ⟨_, ((a0_0 == 5)), (by first | rfl | (simp; done) | (simp [*]; done)), H', ⟨by have := HJ1.out; first | omega | exact Nat.le_refl _⟩, ⟨by (with_reducible repeat (first | refine blk_drewN ?_ _ | refine blk_drew ?_ | refine blk_alloc ?_ _)); exact BK101.out⟩, ⟨by repeat (first | (with_reducible first | exact HB.out | apply below_alloc | apply pw_below_drewN | apply below_drew1 | refine below_set ?_ GE101.out) | exact HB.out)⟩⟩
         ·
          rw [if_neg c36] at H; obtain ⟨c36b0, c36b1⟩ := eF c36; by_cases c37 : a0_0 = 6
          ·
           rw [if_pos c37] at H; obtain ⟨c37b0, c37b1⟩ := eT c37; clear c37; have H' := Aside0.mk H; clear H
           as_aux_lemma =>
            go_wp2; go_meet; case rel => exact ⟨_, ((a0_0 == 6)), (by first | rfl | (simp; done) | (simp [*]; done)), H', ⟨by have := HJ1.out; first | omega | exact Nat.le_refl _⟩, ⟨by (with_reducible repeat (first | refine blk_drewN ?_ _ | refine blk_drew ?_ | refine blk_alloc ?_ _)); exact BK101.out⟩, ⟨by repeat (first | (with_reducible first | exact HB.out | apply below_alloc | apply pw_below_drewN | apply below_drew1 | refine below_set ?_ GE101.out) | exact HB.out)⟩⟩
          ·
           rw [if_neg c37] at H; obtain ⟨c37b0, c37b1⟩ := eF c37; by_cases c38 : a0_0 = 7
           ·
            rw [if_pos c38] at H; obtain ⟨c38b0, c38b1⟩ := eT c38; clear c38; have H' := Aside0.mk H; clear H
            as_aux_lemma =>
             go_wp2; go_meet; case rel => exact ⟨_, ((a0_0 == 7)), (by first | rfl | (simp; done) | (simp [*]; done)), H', ⟨by have := HJ1.out; first | omega | exact Nat.le_refl _⟩, ⟨by (with_reducible repeat (first | refine blk_drewN ?_ _ | refine blk_drew ?_ | refine blk_alloc ?_ _)); exact BK101.out⟩, ⟨by repeat (first | (with_reducible first | exact HB.out | apply below_alloc | apply pw_below_drewN | apply below_drew1 | refine below_set ?_ GE101.out) | exact HB.out)⟩⟩
           ·
            rw [if_neg c38] at H; obtain ⟨c38b0, c38b1⟩ := eF c38; have H' := Aside0.mk H; clear H
            as_aux_lemma =>
             go_wp2; go_meet; case rel => exact ⟨_, ((a0_0 == 8)), (by first | rfl | (simp; done) | (simp [*]; done)), H', ⟨by have := HJ1.out; first | omega | exact Nat.le_refl _⟩, ⟨by (with_reducible repeat (first | refine blk_drewN ?_ _ | refine blk_drew ?_ | refine blk_alloc ?_ _)); exact BK101.out⟩, ⟨by repeat (first | (with_reducible first | exact HB.out | apply below_alloc | apply pw_below_drewN | apply below_drew1 | refine below_set ?_ GE101.out) | exact HB.out)⟩⟩
     case rest =>
      as_aux_lemma =>
       clear HC31; (try clear c1); (try clear p2); (try clear c3); (try clear c5); (try clear c6); (try clear c7); (try clear c9); (try clear c11); (try clear c12); (try clear c12b0); (try clear c12b1); (try clear c13); (try clear c13b0); (try clear c13b1); (try clear c30); (try clear c33); (try clear c33b0); (try clear c33b1); (try clear c34); (try clear c34b0); (try clear c34b1); (try clear c35); (try clear c35b0); (try clear c35b1); (try clear c36); (try clear c36b0); (try clear c36b1); (try clear c37); (try clear c37b0); (try clear c37b1); (try clear c38); (try clear c38b0); (try clear c38b1); (try clear hcz14_0 hcz14_1 hcz14_2 hcz14_3 hcz14_4 hcz14_5 hcz14_6); (try clear hcz16_0 hcz16_1 hcz16_2 hcz16_3 hcz16_4 hcz16_5 hcz16_6); (try clear hcz17_0 hcz17_1 hcz17_2 hcz17_3 hcz17_4 hcz17_5 hcz17_6); (try clear hcz19_0 hcz19_1 hcz19_2 hcz19_3 hcz19_4 hcz19_5 hcz19_6); (try clear hcz20_0 hcz20_1 hcz20_2 hcz20_3 hcz20_4 hcz20_5 hcz20_6); (try clear hcz22_0 hcz22_1 hcz22_2 hcz22_3 hcz22_4 hcz22_5 hcz22_6); (try clear hcz23_0 hcz23_1 hcz23_2 hcz23_3 hcz23_4 hcz23_5 hcz23_6); (try clear hcz25_0 hcz25_1 hcz25_2 hcz25_3 hcz25_4 hcz25_5 hcz25_6); (try clear hcz26_0 hcz26_1 hcz26_2 hcz26_3 hcz26_4 hcz26_5 hcz26_6); (try clear hcz28_0 hcz28_1 hcz28_2 hcz28_3 hcz28_4 hcz28_5 hcz28_6); (try clear hcz29_0 hcz29_1 hcz29_2 hcz29_3 hcz29_4 hcz29_5 hcz29_6); (try clear hcz32_0 hcz32_1 hcz32_2 hcz32_3 hcz32_4 hcz32_5 hcz32_6); (try clear hfz14_0 hfz14_1 hfz14_2 hfz14_3 hfz14_4 hfz14_5 hfz14_6); (try clear hfz16_0 hfz16_1 hfz16_2 hfz16_3 hfz16_4 hfz16_5 hfz16_6); (try clear hfz17_0 hfz17_1 hfz17_2 hfz17_3 hfz17_4 hfz17_5 hfz17_6); (try clear hfz19_0 hfz19_1 hfz19_2 hfz19_3 hfz19_4 hfz19_5 hfz19_6); (try clear hfz20_0 hfz20_1 hfz20_2 hfz20_3 hfz20_4 hfz20_5 hfz20_6); (try clear hfz22_0 hfz22_1 hfz22_2 hfz22_3 hfz22_4 hfz22_5 hfz22_6); (try clear hfz23_0 hfz23_1 hfz23_2 hfz23_3 hfz23_4 hfz23_5 hfz23_6); (try clear hfz25_0 hfz25_1 hfz25_2 hfz25_3 hfz25_4 hfz25_5 hfz25_6); (try clear hfz26_0 hfz26_1 hfz26_2 hfz26_3 hfz26_4 hfz26_5 hfz26_6); (try clear hfz28_0 hfz28_1 hfz28_2 hfz28_3 hfz28_4 hfz28_5 hfz28_6); (try clear hfz29_0 hfz29_1 hfz29_2 hfz29_3 hfz29_4 hfz29_5 hfz29_6); (try clear hfz32_0 hfz32_1 hfz32_2 hfz32_3 hfz32_4 hfz32_5 hfz32_6); (try clear p2); obtain ⟨kq, x52_30, rfl, HA, HJ30, BK101, HB⟩ := hcut; cases kq with
       | zero => exact absurd HA.out (by simp [spec_GoodIns.j1])
       | succ kj30 =>
        have H := HA.out; clear HA; simp only [spec_GoodIns.j1] at H; by_cases c39 : x52_30 = true
        ·
         subst c39; replace H := iT H; by_cases c40 : a0_6 = 0
         ·
          rw [if_pos c40] at H; obtain ⟨c40b0, c40b1⟩ := eT c40; clear c40; by_cases c41 : (a0_1 == 2) = true
          ·
           rw [if_pos c41] at H; have c41b0 : (a0_1 == 2) = true := c41; (try (have c41b1 : decide (a0_1 = 2) = true := by simpa using c41)); (try (have c41b2 : (a0_1 == 2) = true := by simpa using c41)); clear c41; obtain rfl := Option.some.inj H; obtain ⟨hcz42_0, hcz42_1, hcz42_2, hcz42_3, hcz42_4, hcz42_5, hcz42_6⟩ := cz7 BK101.out; obtain ⟨hfz42_0, hfz42_1, hfz42_2, hfz42_3, hfz42_4, hfz42_5, hfz42_6⟩ := fz7 BK101.out
           as_aux_lemma =>
            go_wp2; go_ret; exact ⟨oE, oL⟩
          ·
           rw [if_neg c41] at H; have c41b0 : (a0_1 == 2) = false := by simpa using c41
           (try (have c41b1 : decide (a0_1 = 2) = false := by simpa using c41)); (try (have c41b2 : (a0_1 == 2) = false := by simpa using c41)); (try (have c41b3 : ¬ (a0_1 = 2) := by simpa using c41)); clear c41; obtain rfl := Option.some.inj H; obtain ⟨hcz43_0, hcz43_1, hcz43_2, hcz43_3, hcz43_4, hcz43_5, hcz43_6⟩ := cz7 BK101.out; obtain ⟨hfz43_0, hfz43_1, hfz43_2, hfz43_3, hfz43_4, hfz43_5, hfz43_6⟩ := fz7 BK101.out
           as_aux_lemma =>
            go_wp2; go_ret; exact ⟨oE, oL⟩
         ·
          rw [if_neg c40] at H; obtain ⟨c40b0, c40b1⟩ := eF c40; obtain rfl := Option.some.inj H; obtain ⟨hcz44_0, hcz44_1, hcz44_2, hcz44_3, hcz44_4, hcz44_5, hcz44_6⟩ := cz7 BK101.out; obtain ⟨hfz44_0, hfz44_1, hfz44_2, hfz44_3, hfz44_4, hfz44_5, hfz44_6⟩ := fz7 BK101.out
          as_aux_lemma =>
           go_wp2; go_ret; exact ⟨oE, oL⟩
        ·
         replace c39 := Bool.eq_false_iff.mpr c39; subst c39; replace H := iF H; by_cases c45 : a0_0 = 2
         ·
          rw [if_pos c45] at H; obtain ⟨c45b0, c45b1⟩ := eT c45; clear c45; by_cases c46 : a0_6 = 0
          ·
           rw [if_pos c46] at H; obtain ⟨c46b0, c46b1⟩ := eT c46; clear c46; by_cases c47 : a0_3 = 0
           ·
            rw [if_pos c47] at H; obtain ⟨c47b0, c47b1⟩ := eT c47; clear c47; obtain rfl := Option.some.inj H; obtain ⟨hcz48_0, hcz48_1, hcz48_2, hcz48_3, hcz48_4, hcz48_5, hcz48_6⟩ := cz7 BK101.out; obtain ⟨hfz48_0, hfz48_1, hfz48_2, hfz48_3, hfz48_4, hfz48_5, hfz48_6⟩ := fz7 BK101.out
            as_aux_lemma =>
             go_wp2; go_ret; exact ⟨oE, oL⟩
           ·
            rw [if_neg c47] at H; obtain ⟨c47b0, c47b1⟩ := eF c47; obtain ⟨t106, A490, H⟩ := bE H; have A49 := Aside0.mk A490; clear A490; obtain rfl := Option.some.inj H; obtain ⟨hcz50_0, hcz50_1, hcz50_2, hcz50_3, hcz50_4, hcz50_5, hcz50_6⟩ := cz7 BK101.out; obtain ⟨hfz50_0, hfz50_1, hfz50_2, hfz50_3, hfz50_4, hfz50_5, hfz50_6⟩ := fz7 BK101.out
            as_aux_lemma =>
             go_wp2_with (first | (go_at_call 102; (with_reducible refine (spec_l7Memory.calls a0_3 t106 _ A49.out).mono ?_); rintro e w' ⟨rfl, ⟨nd, rfl⟩⟩))
             go_ret; exact ⟨oE, oL⟩
          ·
           rw [if_neg c46] at H; obtain ⟨c46b0, c46b1⟩ := eF c46; obtain rfl := Option.some.inj H; obtain ⟨hcz51_0, hcz51_1, hcz51_2, hcz51_3, hcz51_4, hcz51_5, hcz51_6⟩ := cz7 BK101.out; obtain ⟨hfz51_0, hfz51_1, hfz51_2, hfz51_3, hfz51_4, hfz51_5, hfz51_6⟩ := fz7 BK101.out
           as_aux_lemma =>
            go_wp2; go_ret; exact ⟨oE, oL⟩
         ·
          rw [if_neg c45] at H; obtain ⟨c45b0, c45b1⟩ := eF c45; by_cases c52 : a0_0 = 9
          ·
           rw [if_pos c52] at H; obtain ⟨c52b0, c52b1⟩ := eT c52; clear c52; by_cases c53 : (a0_1 == 2) = true
           ·
            rw [if_pos c53] at H; have c53b0 : (a0_1 == 2) = true := c53; (try (have c53b1 : decide (a0_1 = 2) = true := by simpa using c53)); (try (have c53b2 : (a0_1 == 2) = true := by simpa using c53)); clear c53; obtain rfl := Option.some.inj H; obtain ⟨hcz54_0, hcz54_1, hcz54_2, hcz54_3, hcz54_4, hcz54_5, hcz54_6⟩ := cz7 BK101.out; obtain ⟨hfz54_0, hfz54_1, hfz54_2, hfz54_3, hfz54_4, hfz54_5, hfz54_6⟩ := fz7 BK101.out
            as_aux_lemma =>
             go_wp2; go_ret; exact ⟨oE, oL⟩
           ·
            rw [if_neg c53] at H; have c53b0 : (a0_1 == 2) = false := by simpa using c53
            (try (have c53b1 : decide (a0_1 = 2) = false := by simpa using c53)); (try (have c53b2 : (a0_1 == 2) = false := by simpa using c53)); (try (have c53b3 : ¬ (a0_1 = 2) := by simpa using c53)); clear c53; obtain rfl := Option.some.inj H
            as_aux_lemma =>
             go_wp2; go_ret; exact ⟨oE, oL⟩
          ·
           rw [if_neg c52] at H; obtain ⟨c52b0, c52b1⟩ := eF c52; by_cases c55 : a0_0 = 10
           ·
            rw [if_pos c55] at H; obtain ⟨c55b0, c55b1⟩ := eT c55; clear c55; by_cases c56 : (a0_1 == 2) = true
            ·
             rw [if_pos c56] at H; have c56b0 : (a0_1 == 2) = true := c56; (try (have c56b1 : decide (a0_1 = 2) = true := by simpa using c56)); (try (have c56b2 : (a0_1 == 2) = true := by simpa using c56)); clear c56; by_cases c57 : a0_6 = 0
             ·
              rw [if_pos c57] at H; obtain ⟨c57b0, c57b1⟩ := eT c57; clear c57; obtain ⟨t107, A580, H⟩ := bE H; have A58 := Aside0.mk A580; clear A580; obtain rfl := Option.some.inj H; obtain ⟨hcz59_0, hcz59_1, hcz59_2, hcz59_3, hcz59_4, hcz59_5, hcz59_6⟩ := cz7 BK101.out; obtain ⟨hfz59_0, hfz59_1, hfz59_2, hfz59_3, hfz59_4, hfz59_5, hfz59_6⟩ := fz7 BK101.out
              as_aux_lemma =>
               go_wp2_with (first | (go_at_call 103; (with_reducible refine (spec_l7Plain.calls a0_3 t107 _ A58.out).mono ?_); rintro e w' ⟨rfl, ⟨nd, rfl⟩⟩))
               go_ret; exact ⟨oE, oL⟩
             ·
              rw [if_neg c57] at H; obtain ⟨c57b0, c57b1⟩ := eF c57; obtain rfl := Option.some.inj H; obtain ⟨hcz60_0, hcz60_1, hcz60_2, hcz60_3, hcz60_4, hcz60_5, hcz60_6⟩ := cz7 BK101.out; obtain ⟨hfz60_0, hfz60_1, hfz60_2, hfz60_3, hfz60_4, hfz60_5, hfz60_6⟩ := fz7 BK101.out
              as_aux_lemma =>
               go_wp2; go_ret; exact ⟨oE, oL⟩
            ·
             rw [if_neg c56] at H; have c56b0 : (a0_1 == 2) = false := by simpa using c56
             (try (have c56b1 : decide (a0_1 = 2) = false := by simpa using c56)); (try (have c56b2 : (a0_1 == 2) = false := by simpa using c56)); (try (have c56b3 : ¬ (a0_1 = 2) := by simpa using c56)); clear c56; obtain rfl := Option.some.inj H
             as_aux_lemma =>
              go_wp2; go_ret; exact ⟨oE, oL⟩
           ·
            rw [if_neg c55] at H; obtain ⟨c55b0, c55b1⟩ := eF c55; by_cases c61 : a0_0 = 11
            ·
             rw [if_pos c61] at H; obtain ⟨c61b0, c61b1⟩ := eT c61; clear c61; by_cases c62 : a0_2 = 0
             ·
              rw [if_pos c62] at H; obtain ⟨c62b0, c62b1⟩ := eT c62; clear c62; by_cases c63 : a0_6 ≤ 3
              ·
               rw [if_pos c63] at H; have c63b0 : decide (a0_6 ≤ 3) = true := decide_eq_true c63; clear c63; by_cases c64 : a0_3 = 0
               ·
                rw [if_pos c64] at H; obtain ⟨c64b0, c64b1⟩ := eT c64; clear c64; obtain rfl := Option.some.inj H; obtain ⟨hcz65_0, hcz65_1, hcz65_2, hcz65_3, hcz65_4, hcz65_5, hcz65_6⟩ := cz7 BK101.out; obtain ⟨hfz65_0, hfz65_1, hfz65_2, hfz65_3, hfz65_4, hfz65_5, hfz65_6⟩ := fz7 BK101.out
                as_aux_lemma =>
                 go_wp2; go_ret; exact ⟨oE, oL⟩
               ·
                rw [if_neg c64] at H; obtain ⟨c64b0, c64b1⟩ := eF c64; obtain ⟨t108, A660, H⟩ := bE H; have A66 := Aside0.mk A660; clear A660; obtain rfl := Option.some.inj H; obtain ⟨hcz67_0, hcz67_1, hcz67_2, hcz67_3, hcz67_4, hcz67_5, hcz67_6⟩ := cz7 BK101.out; obtain ⟨hfz67_0, hfz67_1, hfz67_2, hfz67_3, hfz67_4, hfz67_5, hfz67_6⟩ := fz7 BK101.out
                as_aux_lemma =>
                 go_wp2_with (first | (go_at_call 102; (with_reducible refine (spec_l7Memory.calls a0_3 t108 _ A66.out).mono ?_); rintro e w' ⟨rfl, ⟨nd, rfl⟩⟩))
                 go_ret; exact ⟨oE, oL⟩
              ·
               rw [if_neg c63] at H; have c63b0 : decide (a0_6 ≤ 3) = false := decide_eq_false c63; clear c63; obtain rfl := Option.some.inj H; obtain ⟨hcz68_0, hcz68_1, hcz68_2, hcz68_3, hcz68_4, hcz68_5, hcz68_6⟩ := cz7 BK101.out; obtain ⟨hfz68_0, hfz68_1, hfz68_2, hfz68_3, hfz68_4, hfz68_5, hfz68_6⟩ := fz7 BK101.out
               as_aux_lemma =>
                go_wp2; go_ret; exact ⟨oE, oL⟩
             ·
              rw [if_neg c62] at H; obtain ⟨c62b0, c62b1⟩ := eF c62; obtain rfl := Option.some.inj H; obtain ⟨hcz69_0, hcz69_1, hcz69_2, hcz69_3, hcz69_4, hcz69_5, hcz69_6⟩ := cz7 BK101.out; obtain ⟨hfz69_0, hfz69_1, hfz69_2, hfz69_3, hfz69_4, hfz69_5, hfz69_6⟩ := fz7 BK101.out
              as_aux_lemma =>
               go_wp2; go_ret; exact ⟨oE, oL⟩
            ·
             rw [if_neg c61] at H; obtain ⟨c61b0, c61b1⟩ := eF c61; by_cases c70 : a0_0 = 12
             ·
              rw [if_pos c70] at H; obtain ⟨c70b0, c70b1⟩ := eT c70; clear c70; obtain rfl := Option.some.inj H
              as_aux_lemma =>
               go_wp2; go_ret; exact ⟨oE, oL⟩
             ·
              rw [if_neg c70] at H; obtain ⟨c70b0, c70b1⟩ := eF c70; by_cases c71 : a0_0 = 13
              ·
               rw [if_pos c71] at H; obtain ⟨c71b0, c71b1⟩ := eT c71; clear c71; by_cases c72 : (a0_1 == 2) = true
               ·
                rw [if_pos c72] at H; have c72b0 : (a0_1 == 2) = true := c72; (try (have c72b1 : decide (a0_1 = 2) = true := by simpa using c72)); (try (have c72b2 : (a0_1 == 2) = true := by simpa using c72)); clear c72; by_cases c73 : a0_2 ≤ 1
                ·
                 rw [if_pos c73] at H; have c73b0 : decide (a0_2 ≤ 1) = true := decide_eq_true c73; clear c73; obtain rfl := Option.some.inj H; obtain ⟨hcz74_0, hcz74_1, hcz74_2, hcz74_3, hcz74_4, hcz74_5, hcz74_6⟩ := cz7 BK101.out; obtain ⟨hfz74_0, hfz74_1, hfz74_2, hfz74_3, hfz74_4, hfz74_5, hfz74_6⟩ := fz7 BK101.out
                 as_aux_lemma =>
                  go_wp2; go_ret; exact ⟨oE, oL⟩
                ·
                 rw [if_neg c73] at H; have c73b0 : decide (a0_2 ≤ 1) = false := decide_eq_false c73; clear c73; obtain rfl := Option.some.inj H; obtain ⟨hcz75_0, hcz75_1, hcz75_2, hcz75_3, hcz75_4, hcz75_5, hcz75_6⟩ := cz7 BK101.out; obtain ⟨hfz75_0, hfz75_1, hfz75_2, hfz75_3, hfz75_4, hfz75_5, hfz75_6⟩ := fz7 BK101.out
                 as_aux_lemma =>
                  go_wp2; go_ret; exact ⟨oE, oL⟩
               ·
                rw [if_neg c72] at H; have c72b0 : (a0_1 == 2) = false := by simpa using c72
                (try (have c72b1 : decide (a0_1 = 2) = false := by simpa using c72)); (try (have c72b2 : (a0_1 == 2) = false := by simpa using c72)); (try (have c72b3 : ¬ (a0_1 = 2) := by simpa using c72)); clear c72; obtain rfl := Option.some.inj H
                as_aux_lemma =>
                 go_wp2; go_ret; exact ⟨oE, oL⟩
              ·
               rw [if_neg c71] at H; obtain ⟨c71b0, c71b1⟩ := eF c71; by_cases c76 : a0_0 = 14
               ·
                rw [if_pos c76] at H; obtain ⟨c76b0, c76b1⟩ := eT c76; clear c76; by_cases c77 : (a0_1 == 2) = true
                ·
                 rw [if_pos c77] at H; have c77b0 : (a0_1 == 2) = true := c77; (try (have c77b1 : decide (a0_1 = 2) = true := by simpa using c77)); (try (have c77b2 : (a0_1 == 2) = true := by simpa using c77)); clear c77; by_cases c78 : a0_2 = 0
                 ·
                  rw [if_pos c78] at H; obtain ⟨c78b0, c78b1⟩ := eT c78; clear c78; by_cases c79 : a0_6 ≤ 1
                  ·
                   rw [if_pos c79] at H; have c79b0 : decide (a0_6 ≤ 1) = true := decide_eq_true c79; clear c79; obtain ⟨t109, A800, H⟩ := bE H; have A80 := Aside0.mk A800; clear A800; obtain rfl := Option.some.inj H; obtain ⟨hcz81_0, hcz81_1, hcz81_2, hcz81_3, hcz81_4, hcz81_5, hcz81_6⟩ := cz7 BK101.out; obtain ⟨hfz81_0, hfz81_1, hfz81_2, hfz81_3, hfz81_4, hfz81_5, hfz81_6⟩ := fz7 BK101.out
                   as_aux_lemma =>
                    go_wp2_with (first | (go_at_call 103; (with_reducible refine (spec_l7Plain.calls a0_3 t109 _ A80.out).mono ?_); rintro e w' ⟨rfl, ⟨nd, rfl⟩⟩))
                    go_ret; exact ⟨oE, oL⟩
                  ·
                   rw [if_neg c79] at H; have c79b0 : decide (a0_6 ≤ 1) = false := decide_eq_false c79; clear c79; obtain rfl := Option.some.inj H; obtain ⟨hcz82_0, hcz82_1, hcz82_2, hcz82_3, hcz82_4, hcz82_5, hcz82_6⟩ := cz7 BK101.out; obtain ⟨hfz82_0, hfz82_1, hfz82_2, hfz82_3, hfz82_4, hfz82_5, hfz82_6⟩ := fz7 BK101.out
                   as_aux_lemma =>
                    go_wp2; go_ret; exact ⟨oE, oL⟩
                 ·
                  rw [if_neg c78] at H; obtain ⟨c78b0, c78b1⟩ := eF c78; obtain rfl := Option.some.inj H; obtain ⟨hcz83_0, hcz83_1, hcz83_2, hcz83_3, hcz83_4, hcz83_5, hcz83_6⟩ := cz7 BK101.out; obtain ⟨hfz83_0, hfz83_1, hfz83_2, hfz83_3, hfz83_4, hfz83_5, hfz83_6⟩ := fz7 BK101.out
                  as_aux_lemma =>
                   go_wp2; go_ret; exact ⟨oE, oL⟩
                ·
                 rw [if_neg c77] at H; have c77b0 : (a0_1 == 2) = false := by simpa using c77
                 (try (have c77b1 : decide (a0_1 = 2) = false := by simpa using c77)); (try (have c77b2 : (a0_1 == 2) = false := by simpa using c77)); (try (have c77b3 : ¬ (a0_1 = 2) := by simpa using c77)); clear c77; obtain rfl := Option.some.inj H
                 as_aux_lemma =>
                  go_wp2; go_ret; exact ⟨oE, oL⟩
               ·
                rw [if_neg c76] at H; obtain ⟨c76b0, c76b1⟩ := eF c76; have HC84 := Aside0.mk H; clear H; go_upto_if 154 with (fail)
                go_cut [154] (fun v154 wc => ∃ (kq : Nat) (x154_83 : Bool), v154 = .bool x154_83 ∧ Aside0 (spec_GoodIns.j2 kq (a0_1 == 2) a0_3 a0_0 x154_83 a0_0 a0_1 a0_2 a0_3 a0_4 a0_5 a0_6 = some r) ∧ Aside0 (kq ≤ kj30) ∧ Aside0 (wc.heap[gb101]? = some (.cells #[.int .i64 a0_0, .int .i64 a0_1, .int .i64 a0_2, .int .i64 a0_3, .int .i64 a0_4, .int .i64 a0_5, .int .i64 a0_6] 77 (0, 0))) ∧ Aside0 (Below w.heap.size w wc))
                case first =>
                 have H := HC84.out; clear HC84; by_cases c85 : a0_0 = 16
                 ·
                  rw [if_pos c85] at H; obtain ⟨c85b0, c85b1⟩ := eT c85; clear c85; (first | rw [c85b0] | (simp only [i64_w, i32_w]; rw [c85b0]) | skip); have H' := Aside0.mk H; clear H
                  as_aux_lemma =>
                   go_wp2; go_meet; case rel => exact ⟨_, ((a0_0 == 16)), (by first | rfl | (simp; done) | (simp [*]; done)), H', ⟨by have := HJ1.out; have := HJ30.out; first | omega | exact Nat.le_refl _⟩, ⟨by (with_reducible repeat (first | refine blk_drewN ?_ _ | refine blk_drew ?_ | refine blk_alloc ?_ _)); exact BK101.out⟩, ⟨by repeat (first | (with_reducible first | exact HB.out | apply below_alloc | apply pw_below_drewN | apply below_drew1 | refine below_set ?_ GE101.out) | exact HB.out)⟩⟩
                 ·
                  rw [if_neg c85] at H; obtain ⟨c85b0, c85b1⟩ := eF c85; (first | rw [c85b0] | (simp only [i64_w, i32_w]; rw [c85b0]) | skip); have H' := Aside0.mk H; clear H
                  as_aux_lemma =>
                   go_wp2; go_meet; case rel => exact ⟨_, ((a0_0 == 17)), (by first | rfl | (simp; done) | (simp [*]; done)), H', ⟨by have := HJ1.out; have := HJ30.out; first | omega | exact Nat.le_refl _⟩, ⟨by (with_reducible repeat (first | refine blk_drewN ?_ _ | refine blk_drew ?_ | refine blk_alloc ?_ _)); exact BK101.out⟩, ⟨by repeat (first | (with_reducible first | exact HB.out | apply below_alloc | apply pw_below_drewN | apply below_drew1 | refine below_set ?_ GE101.out) | exact HB.out)⟩⟩
                case rest =>
                 as_aux_lemma =>
                  clear HC84; (try clear p2); (try clear c3); (try clear c4); (try clear c5); (try clear c6); (try clear c7); (try clear c8); (try clear c39); (try clear c40); (try clear c40b0); (try clear c40b1); (try clear c41); (try clear c41b0); (try clear c41b1); (try clear c41b2); (try clear c45); (try clear c45b0); (try clear c45b1); (try clear c46); (try clear c46b0); (try clear c46b1); (try clear c47); (try clear c47b0); (try clear c47b1); (try clear c52); (try clear c52b0); (try clear c52b1); (try clear c53); (try clear c53b0); (try clear c53b1); (try clear c53b2); (try clear c55); (try clear c55b0); (try clear c55b1); (try clear c56); (try clear c56b0); (try clear c56b1); (try clear c56b2); (try clear c57); (try clear c57b0); (try clear c57b1); (try clear c61); (try clear c61b0); (try clear c61b1); (try clear c62); (try clear c62b0); (try clear c62b1); (try clear c63); (try clear c63b0); (try clear c64); (try clear c64b0); (try clear c64b1); (try clear c70); (try clear c70b0); (try clear c70b1); (try clear c71); (try clear c71b0); (try clear c71b1); (try clear c72); (try clear c72b0); (try clear c72b1); (try clear c72b2); (try clear c73); (try clear c73b0); (try clear c76); (try clear c76b0); (try clear c76b1); (try clear c77); (try clear c77b0); (try clear c77b1); (try clear c77b2); (try clear c78); (try clear c78b0); (try clear c78b1); (try clear c79); (try clear c79b0); (try clear c85); (try clear c85b0); (try clear c85b1); (try clear hcz42_0 hcz42_1 hcz42_2 hcz42_3 hcz42_4 hcz42_5 hcz42_6); (try clear hcz43_0 hcz43_1 hcz43_2 hcz43_3 hcz43_4 hcz43_5 hcz43_6); (try clear hcz44_0 hcz44_1 hcz44_2 hcz44_3 hcz44_4 hcz44_5 hcz44_6); (try clear hcz48_0 hcz48_1 hcz48_2 hcz48_3 hcz48_4 hcz48_5 hcz48_6); (try clear hcz50_0 hcz50_1 hcz50_2 hcz50_3 hcz50_4 hcz50_5 hcz50_6); (try clear hcz51_0 hcz51_1 hcz51_2 hcz51_3 hcz51_4 hcz51_5 hcz51_6); (try clear hcz54_0 hcz54_1 hcz54_2 hcz54_3 hcz54_4 hcz54_5 hcz54_6); (try clear hcz59_0 hcz59_1 hcz59_2 hcz59_3 hcz59_4 hcz59_5 hcz59_6); (try clear hcz60_0 hcz60_1 hcz60_2 hcz60_3 hcz60_4 hcz60_5 hcz60_6); (try clear hcz65_0 hcz65_1 hcz65_2 hcz65_3 hcz65_4 hcz65_5 hcz65_6); (try clear hcz67_0 hcz67_1 hcz67_2 hcz67_3 hcz67_4 hcz67_5 hcz67_6); (try clear hcz68_0 hcz68_1 hcz68_2 hcz68_3 hcz68_4 hcz68_5 hcz68_6); (try clear hcz69_0 hcz69_1 hcz69_2 hcz69_3 hcz69_4 hcz69_5 hcz69_6); (try clear hcz74_0 hcz74_1 hcz74_2 hcz74_3 hcz74_4 hcz74_5 hcz74_6); (try clear hcz75_0 hcz75_1 hcz75_2 hcz75_3 hcz75_4 hcz75_5 hcz75_6); (try clear hcz81_0 hcz81_1 hcz81_2 hcz81_3 hcz81_4 hcz81_5 hcz81_6); (try clear hcz82_0 hcz82_1 hcz82_2 hcz82_3 hcz82_4 hcz82_5 hcz82_6); (try clear hcz83_0 hcz83_1 hcz83_2 hcz83_3 hcz83_4 hcz83_5 hcz83_6); (try clear hfz42_0 hfz42_1 hfz42_2 hfz42_3 hfz42_4 hfz42_5 hfz42_6); (try clear hfz43_0 hfz43_1 hfz43_2 hfz43_3 hfz43_4 hfz43_5 hfz43_6); (try clear hfz44_0 hfz44_1 hfz44_2 hfz44_3 hfz44_4 hfz44_5 hfz44_6); (try clear hfz48_0 hfz48_1 hfz48_2 hfz48_3 hfz48_4 hfz48_5 hfz48_6); (try clear hfz50_0 hfz50_1 hfz50_2 hfz50_3 hfz50_4 hfz50_5 hfz50_6); (try clear hfz51_0 hfz51_1 hfz51_2 hfz51_3 hfz51_4 hfz51_5 hfz51_6); (try clear hfz54_0 hfz54_1 hfz54_2 hfz54_3 hfz54_4 hfz54_5 hfz54_6); (try clear hfz59_0 hfz59_1 hfz59_2 hfz59_3 hfz59_4 hfz59_5 hfz59_6); (try clear hfz60_0 hfz60_1 hfz60_2 hfz60_3 hfz60_4 hfz60_5 hfz60_6); (try clear hfz65_0 hfz65_1 hfz65_2 hfz65_3 hfz65_4 hfz65_5 hfz65_6); (try clear hfz67_0 hfz67_1 hfz67_2 hfz67_3 hfz67_4 hfz67_5 hfz67_6); (try clear hfz68_0 hfz68_1 hfz68_2 hfz68_3 hfz68_4 hfz68_5 hfz68_6); (try clear hfz69_0 hfz69_1 hfz69_2 hfz69_3 hfz69_4 hfz69_5 hfz69_6); (try clear hfz74_0 hfz74_1 hfz74_2 hfz74_3 hfz74_4 hfz74_5 hfz74_6); (try clear hfz75_0 hfz75_1 hfz75_2 hfz75_3 hfz75_4 hfz75_5 hfz75_6); (try clear hfz81_0 hfz81_1 hfz81_2 hfz81_3 hfz81_4 hfz81_5 hfz81_6); (try clear hfz82_0 hfz82_1 hfz82_2 hfz82_3 hfz82_4 hfz82_5 hfz82_6); (try clear hfz83_0 hfz83_1 hfz83_2 hfz83_3 hfz83_4 hfz83_5 hfz83_6); obtain ⟨kq, x154_83, rfl, HA, HJ83, BK101, HB⟩ := hcut
                  cases kq with
                  | zero => exact absurd HA.out (by simp [spec_GoodIns.j2])
                  | succ kj83 =>
                   have H := HA.out; clear HA; simp only [spec_GoodIns.j2] at H; by_cases c86 : x154_83 = true
                   ·
                    subst c86; replace H := iT H; by_cases c87 : (a0_1 == 2) = true
                    ·
                     rw [if_pos c87] at H; have c87b0 : (a0_1 == 2) = true := c87; (try (have c87b1 : decide (a0_1 = 2) = true := by simpa using c87)); (try (have c87b2 : (a0_1 == 2) = true := by simpa using c87)); clear c87; by_cases c88 : a0_6 = 0
                     ·
                      rw [if_pos c88] at H; obtain ⟨c88b0, c88b1⟩ := eT c88; clear c88; obtain rfl := Option.some.inj H; obtain ⟨hcz89_0, hcz89_1, hcz89_2, hcz89_3, hcz89_4, hcz89_5, hcz89_6⟩ := cz7 BK101.out; obtain ⟨hfz89_0, hfz89_1, hfz89_2, hfz89_3, hfz89_4, hfz89_5, hfz89_6⟩ := fz7 BK101.out
                      as_aux_lemma =>
                       go_wp2; go_ret; exact ⟨oE, oL⟩
                     ·
                      rw [if_neg c88] at H; obtain ⟨c88b0, c88b1⟩ := eF c88; obtain rfl := Option.some.inj H; obtain ⟨hcz90_0, hcz90_1, hcz90_2, hcz90_3, hcz90_4, hcz90_5, hcz90_6⟩ := cz7 BK101.out; obtain ⟨hfz90_0, hfz90_1, hfz90_2, hfz90_3, hfz90_4, hfz90_5, hfz90_6⟩ := fz7 BK101.out
                      as_aux_lemma =>
                       go_wp2; go_ret; exact ⟨oE, oL⟩
                    ·
                     rw [if_neg c87] at H; have c87b0 : (a0_1 == 2) = false := by simpa using c87
                     (try (have c87b1 : decide (a0_1 = 2) = false := by simpa using c87)); (try (have c87b2 : (a0_1 == 2) = false := by simpa using c87)); (try (have c87b3 : ¬ (a0_1 = 2) := by simpa using c87)); clear c87; obtain rfl := Option.some.inj H
                     as_aux_lemma =>
                      go_wp2; go_ret; exact ⟨oE, oL⟩
                   ·
                    replace c86 := Bool.eq_false_iff.mpr c86; subst c86; replace H := iF H; by_cases c91 : a0_0 = 18
                    ·
                     rw [if_pos c91] at H; obtain ⟨c91b0, c91b1⟩ := eT c91; clear c91; by_cases c92 : (a0_1 == 2) = true
                     ·
                      rw [if_pos c92] at H; have c92b0 : (a0_1 == 2) = true := c92; (try (have c92b1 : decide (a0_1 = 2) = true := by simpa using c92)); (try (have c92b2 : (a0_1 == 2) = true := by simpa using c92)); clear c92; obtain rfl := Option.some.inj H
                      as_aux_lemma =>
                       go_wp2; go_ret; exact ⟨oE, oL⟩
                     ·
                      rw [if_neg c92] at H; have c92b0 : (a0_1 == 2) = false := by simpa using c92
                      (try (have c92b1 : decide (a0_1 = 2) = false := by simpa using c92)); (try (have c92b2 : (a0_1 == 2) = false := by simpa using c92)); (try (have c92b3 : ¬ (a0_1 = 2) := by simpa using c92)); clear c92; by_cases c93 : a0_6 ≤ 1
                      ·
                       rw [if_pos c93] at H; have c93b0 : decide (a0_6 ≤ 1) = true := decide_eq_true c93; clear c93; obtain rfl := Option.some.inj H; obtain ⟨hcz94_0, hcz94_1, hcz94_2, hcz94_3, hcz94_4, hcz94_5, hcz94_6⟩ := cz7 BK101.out; obtain ⟨hfz94_0, hfz94_1, hfz94_2, hfz94_3, hfz94_4, hfz94_5, hfz94_6⟩ := fz7 BK101.out
                       as_aux_lemma =>
                        go_wp2; go_ret; exact ⟨oE, oL⟩
                      ·
                       rw [if_neg c93] at H; have c93b0 : decide (a0_6 ≤ 1) = false := decide_eq_false c93; clear c93; obtain rfl := Option.some.inj H; obtain ⟨hcz95_0, hcz95_1, hcz95_2, hcz95_3, hcz95_4, hcz95_5, hcz95_6⟩ := cz7 BK101.out; obtain ⟨hfz95_0, hfz95_1, hfz95_2, hfz95_3, hfz95_4, hfz95_5, hfz95_6⟩ := fz7 BK101.out
                       as_aux_lemma =>
                        go_wp2; go_ret; exact ⟨oE, oL⟩
                    ·
                     rw [if_neg c91] at H; obtain ⟨c91b0, c91b1⟩ := eF c91; by_cases c96 : a0_0 = 19
                     ·
                      rw [if_pos c96] at H; obtain ⟨c96b0, c96b1⟩ := eT c96; clear c96; by_cases c97 : (a0_1 == 2) = true
                      ·
                       rw [if_pos c97] at H; have c97b0 : (a0_1 == 2) = true := c97; (try (have c97b1 : decide (a0_1 = 2) = true := by simpa using c97)); (try (have c97b2 : (a0_1 == 2) = true := by simpa using c97)); clear c97; by_cases c98 : a0_6 = 0
                       ·
                        rw [if_pos c98] at H; obtain ⟨c98b0, c98b1⟩ := eT c98; clear c98; by_cases c99 : a0_2 = 0
                        ·
                         rw [if_pos c99] at H; obtain ⟨c99b0, c99b1⟩ := eT c99; clear c99; obtain ⟨t110, A1000, H⟩ := bE H; have A100 := Aside0.mk A1000; clear A1000; by_cases c101 : t110 = true
                         ·
                          subst c101; replace H := iT H; obtain rfl := Option.some.inj H; obtain ⟨hcz102_0, hcz102_1, hcz102_2, hcz102_3, hcz102_4, hcz102_5, hcz102_6⟩ := cz7 BK101.out; obtain ⟨hfz102_0, hfz102_1, hfz102_2, hfz102_3, hfz102_4, hfz102_5, hfz102_6⟩ := fz7 BK101.out
                          as_aux_lemma =>
                           go_wp2_with (first | (go_at_call 104; (with_reducible refine (spec_l7Now.calls a0_3 a0_4 a0_5 true _ A100.out).mono ?_); rintro e w103 ⟨rfl, hb⟩; have n0_ := Aside0.mk (blk_below (oB BK101.out) hb); have n1_ := Aside0.mk (below_step oL hb); clear BK101; clear HB; have BK101 := n0_; have HB := n1_; clear n0_ n1_; (try clear hb); (try clear hb2); (try clear hk); (try clear hi)))
                           go_ret; exact ⟨oE, oL⟩
                         ·
                          replace c101 := Bool.eq_false_iff.mpr c101; subst c101; replace H := iF H; by_cases c104 : a0_6 = 1
                          ·
                           rw [if_pos c104] at H; obtain ⟨c104b0, c104b1⟩ := eT c104; clear c104; obtain ⟨t111, A1050, H⟩ := bE H; have A105 := Aside0.mk A1050; clear A1050; obtain rfl := Option.some.inj H; obtain ⟨hcz106_0, hcz106_1, hcz106_2, hcz106_3, hcz106_4, hcz106_5, hcz106_6⟩ := cz7 BK101.out; obtain ⟨hfz106_0, hfz106_1, hfz106_2, hfz106_3, hfz106_4, hfz106_5, hfz106_6⟩ := fz7 BK101.out
                           as_aux_lemma =>
                            go_wp2_with (first | (go_at_call 104; (with_reducible refine (spec_l7Now.calls a0_3 a0_4 a0_5 false _ A100.out).mono ?_); rintro e w107 ⟨rfl, hb⟩; have n0_ := Aside0.mk (blk_below (oB BK101.out) hb); have n1_ := Aside0.mk (below_step oL hb); clear BK101; clear HB; have BK101 := n0_; have HB := n1_; clear n0_ n1_; (try clear hb); (try clear hb2); (try clear hk); (try clear hi); obtain ⟨hcz108_0, hcz108_1, hcz108_2, hcz108_3, hcz108_4, hcz108_5, hcz108_6⟩ := cz7 BK101.out; obtain ⟨hfz108_0, hfz108_1, hfz108_2, hfz108_3, hfz108_4, hfz108_5, hfz108_6⟩ := fz7 BK101.out) | (go_at_call 105; (with_reducible refine (spec_l7Zero.calls a0_3 a0_4 a0_5 t111 _ A105.out).mono ?_); rintro e w109 ⟨rfl, hb⟩; have n0_ := Aside0.mk (blk_below (oB BK101.out) hb); have n1_ := Aside0.mk (below_step oL hb); clear BK101; clear HB; have BK101 := n0_; have HB := n1_; clear n0_ n1_; (try clear hb); (try clear hb2); (try clear hk); (try clear hi)))
                            go_ret; exact ⟨oE, oL⟩
                          ·
                           rw [if_neg c104] at H; obtain ⟨c104b0, c104b1⟩ := eF c104; obtain rfl := Option.some.inj H; obtain ⟨hcz110_0, hcz110_1, hcz110_2, hcz110_3, hcz110_4, hcz110_5, hcz110_6⟩ := cz7 BK101.out; obtain ⟨hfz110_0, hfz110_1, hfz110_2, hfz110_3, hfz110_4, hfz110_5, hfz110_6⟩ := fz7 BK101.out
                           as_aux_lemma =>
                            go_wp2_with (first | (go_at_call 104; (with_reducible refine (spec_l7Now.calls a0_3 a0_4 a0_5 false _ A100.out).mono ?_); rintro e w111 ⟨rfl, hb⟩; have n0_ := Aside0.mk (blk_below (oB BK101.out) hb); have n1_ := Aside0.mk (below_step oL hb); clear BK101; clear HB; have BK101 := n0_; have HB := n1_; clear n0_ n1_; (try clear hb); (try clear hb2); (try clear hk); (try clear hi); obtain ⟨hcz112_0, hcz112_1, hcz112_2, hcz112_3, hcz112_4, hcz112_5, hcz112_6⟩ := cz7 BK101.out; obtain ⟨hfz112_0, hfz112_1, hfz112_2, hfz112_3, hfz112_4, hfz112_5, hfz112_6⟩ := fz7 BK101.out))
                            go_ret; exact ⟨oE, oL⟩
                        ·
                         rw [if_neg c99] at H; obtain ⟨c99b0, c99b1⟩ := eF c99; by_cases c113 : a0_6 = 1
                         ·
                          rw [if_pos c113] at H; obtain ⟨c113b0, c113b1⟩ := eT c113; clear c113; obtain ⟨t112, A1140, H⟩ := bE H; have A114 := Aside0.mk A1140; clear A1140; obtain rfl := Option.some.inj H; obtain ⟨hcz115_0, hcz115_1, hcz115_2, hcz115_3, hcz115_4, hcz115_5, hcz115_6⟩ := cz7 BK101.out; obtain ⟨hfz115_0, hfz115_1, hfz115_2, hfz115_3, hfz115_4, hfz115_5, hfz115_6⟩ := fz7 BK101.out
                          as_aux_lemma =>
                           go_wp2_with (first | (go_at_call 105; (with_reducible refine (spec_l7Zero.calls a0_3 a0_4 a0_5 t112 _ A114.out).mono ?_); rintro e w116 ⟨rfl, hb⟩; have n0_ := Aside0.mk (blk_below (oB BK101.out) hb); have n1_ := Aside0.mk (below_step oL hb); clear BK101; clear HB; have BK101 := n0_; have HB := n1_; clear n0_ n1_; (try clear hb); (try clear hb2); (try clear hk); (try clear hi)))
                           go_ret; exact ⟨oE, oL⟩
                         ·
                          rw [if_neg c113] at H; obtain ⟨c113b0, c113b1⟩ := eF c113; obtain rfl := Option.some.inj H; obtain ⟨hcz117_0, hcz117_1, hcz117_2, hcz117_3, hcz117_4, hcz117_5, hcz117_6⟩ := cz7 BK101.out; obtain ⟨hfz117_0, hfz117_1, hfz117_2, hfz117_3, hfz117_4, hfz117_5, hfz117_6⟩ := fz7 BK101.out
                          as_aux_lemma =>
                           go_wp2; go_ret; exact ⟨oE, oL⟩
                       ·
                        rw [if_neg c98] at H; obtain ⟨c98b0, c98b1⟩ := eF c98; by_cases c118 : a0_6 = 1
                        ·
                         rw [if_pos c118] at H; obtain ⟨c118b0, c118b1⟩ := eT c118; clear c118; obtain ⟨t113, A1190, H⟩ := bE H; have A119 := Aside0.mk A1190; clear A1190; obtain rfl := Option.some.inj H; obtain ⟨hcz120_0, hcz120_1, hcz120_2, hcz120_3, hcz120_4, hcz120_5, hcz120_6⟩ := cz7 BK101.out; obtain ⟨hfz120_0, hfz120_1, hfz120_2, hfz120_3, hfz120_4, hfz120_5, hfz120_6⟩ := fz7 BK101.out
                         as_aux_lemma =>
                          go_wp2_with (first | (go_at_call 105; (with_reducible refine (spec_l7Zero.calls a0_3 a0_4 a0_5 t113 _ A119.out).mono ?_); rintro e w121 ⟨rfl, hb⟩; have n0_ := Aside0.mk (blk_below (oB BK101.out) hb); have n1_ := Aside0.mk (below_step oL hb); clear BK101; clear HB; have BK101 := n0_; have HB := n1_; clear n0_ n1_; (try clear hb); (try clear hb2); (try clear hk); (try clear hi)))
                          go_ret; exact ⟨oE, oL⟩
                        ·
                         rw [if_neg c118] at H; obtain ⟨c118b0, c118b1⟩ := eF c118; obtain rfl := Option.some.inj H; obtain ⟨hcz122_0, hcz122_1, hcz122_2, hcz122_3, hcz122_4, hcz122_5, hcz122_6⟩ := cz7 BK101.out; obtain ⟨hfz122_0, hfz122_1, hfz122_2, hfz122_3, hfz122_4, hfz122_5, hfz122_6⟩ := fz7 BK101.out
                         as_aux_lemma =>
                          go_wp2; go_ret; exact ⟨oE, oL⟩
                      ·
                       rw [if_neg c97] at H; have c97b0 : (a0_1 == 2) = false := by simpa using c97
                       (try (have c97b1 : decide (a0_1 = 2) = false := by simpa using c97)); (try (have c97b2 : (a0_1 == 2) = false := by simpa using c97)); (try (have c97b3 : ¬ (a0_1 = 2) := by simpa using c97)); clear c97; obtain rfl := Option.some.inj H
                       as_aux_lemma =>
                        go_wp2; go_ret; exact ⟨oE, oL⟩
                     ·
                      rw [if_neg c96] at H; obtain ⟨c96b0, c96b1⟩ := eF c96; by_cases c123 : a0_0 = 15
                      ·
                       rw [if_pos c123] at H; obtain ⟨c123b0, c123b1⟩ := eT c123; clear c123; by_cases c124 : a0_6 = 3
                       ·
                        rw [if_pos c124] at H; obtain ⟨c124b0, c124b1⟩ := eT c124; clear c124; by_cases c125 : (a0_1 == 2) = true
                        ·
                         rw [if_pos c125] at H; have c125b0 : (a0_1 == 2) = true := c125; (try (have c125b1 : decide (a0_1 = 2) = true := by simpa using c125)); (try (have c125b2 : (a0_1 == 2) = true := by simpa using c125)); clear c125; by_cases c126 : a0_2 = 0
                         ·
                          rw [if_pos c126] at H; obtain ⟨c126b0, c126b1⟩ := eT c126; clear c126; obtain ⟨t114, A1270, H⟩ := bE H; have A127 := Aside0.mk A1270; clear A1270; obtain rfl := Option.some.inj H; obtain ⟨hcz128_0, hcz128_1, hcz128_2, hcz128_3, hcz128_4, hcz128_5, hcz128_6⟩ := cz7 BK101.out; obtain ⟨hfz128_0, hfz128_1, hfz128_2, hfz128_3, hfz128_4, hfz128_5, hfz128_6⟩ := fz7 BK101.out
                          as_aux_lemma =>
                           go_wp2_with (first | (go_at_call 104; (with_reducible refine (spec_l7Now.calls a0_3 a0_4 a0_5 t114 _ A127.out).mono ?_); rintro e w129 ⟨rfl, hb⟩; have n0_ := Aside0.mk (blk_below (oB BK101.out) hb); have n1_ := Aside0.mk (below_step oL hb); clear BK101; clear HB; have BK101 := n0_; have HB := n1_; clear n0_ n1_; (try clear hb); (try clear hb2); (try clear hk); (try clear hi)))
                           go_ret; exact ⟨oE, oL⟩
                         ·
                          rw [if_neg c126] at H; obtain ⟨c126b0, c126b1⟩ := eF c126; obtain rfl := Option.some.inj H; obtain ⟨hcz130_0, hcz130_1, hcz130_2, hcz130_3, hcz130_4, hcz130_5, hcz130_6⟩ := cz7 BK101.out; obtain ⟨hfz130_0, hfz130_1, hfz130_2, hfz130_3, hfz130_4, hfz130_5, hfz130_6⟩ := fz7 BK101.out
                          as_aux_lemma =>
                           go_wp2; go_ret; exact ⟨oE, oL⟩
                        ·
                         rw [if_neg c125] at H; have c125b0 : (a0_1 == 2) = false := by simpa using c125
                         (try (have c125b1 : decide (a0_1 = 2) = false := by simpa using c125)); (try (have c125b2 : (a0_1 == 2) = false := by simpa using c125)); (try (have c125b3 : ¬ (a0_1 = 2) := by simpa using c125)); clear c125; obtain rfl := Option.some.inj H; obtain ⟨hcz131_0, hcz131_1, hcz131_2, hcz131_3, hcz131_4, hcz131_5, hcz131_6⟩ := cz7 BK101.out; obtain ⟨hfz131_0, hfz131_1, hfz131_2, hfz131_3, hfz131_4, hfz131_5, hfz131_6⟩ := fz7 BK101.out
                         as_aux_lemma =>
                          go_wp2; go_ret; exact ⟨oE, oL⟩
                       ·
                        rw [if_neg c124] at H; obtain ⟨c124b0, c124b1⟩ := eF c124; by_cases c132 : (a0_1 == 2) = true
                        ·
                         rw [if_pos c132] at H; have c132b0 : (a0_1 == 2) = true := c132; (try (have c132b1 : decide (a0_1 = 2) = true := by simpa using c132)); (try (have c132b2 : (a0_1 == 2) = true := by simpa using c132)); clear c132; by_cases c133 : a0_6 ≤ 6
                         ·
                          rw [if_pos c133] at H; have c133b0 : decide (a0_6 ≤ 6) = true := decide_eq_true c133; clear c133; obtain ⟨t115, A1340, H⟩ := bE H; have A134 := Aside0.mk A1340; clear A1340; by_cases c135 : t115 = true
                          ·
                           subst c135; replace H := iT H; by_cases c136 : a0_6 > 3
                           ·
                            rw [if_pos c136] at H; have c136b0 : decide (3 < a0_6) = true := decide_eq_true c136; clear c136; obtain rfl := Option.some.inj H; obtain ⟨hcz137_0, hcz137_1, hcz137_2, hcz137_3, hcz137_4, hcz137_5, hcz137_6⟩ := cz7 BK101.out; obtain ⟨hfz137_0, hfz137_1, hfz137_2, hfz137_3, hfz137_4, hfz137_5, hfz137_6⟩ := fz7 BK101.out
                            as_aux_lemma =>
                             go_wp2_with (first | (go_at_call 105; (with_reducible refine (spec_l7Zero.calls a0_3 a0_4 a0_5 true _ A134.out).mono ?_); rintro e w138 ⟨rfl, hb⟩; have n0_ := Aside0.mk (blk_below (oB BK101.out) hb); have n1_ := Aside0.mk (below_step oL hb); clear BK101; clear HB; have BK101 := n0_; have HB := n1_; clear n0_ n1_; (try clear hb); (try clear hb2); (try clear hk); (try clear hi); obtain ⟨hcz139_0, hcz139_1, hcz139_2, hcz139_3, hcz139_4, hcz139_5, hcz139_6⟩ := cz7 BK101.out; obtain ⟨hfz139_0, hfz139_1, hfz139_2, hfz139_3, hfz139_4, hfz139_5, hfz139_6⟩ := fz7 BK101.out))
                             go_ret; exact ⟨oE, oL⟩
                           ·
                            rw [if_neg c136] at H; have c136b0 : decide (3 < a0_6) = false := decide_eq_false c136; clear c136; obtain rfl := Option.some.inj H; obtain ⟨hcz140_0, hcz140_1, hcz140_2, hcz140_3, hcz140_4, hcz140_5, hcz140_6⟩ := cz7 BK101.out; obtain ⟨hfz140_0, hfz140_1, hfz140_2, hfz140_3, hfz140_4, hfz140_5, hfz140_6⟩ := fz7 BK101.out
                            as_aux_lemma =>
                             go_wp2_with (first | (go_at_call 105; (with_reducible refine (spec_l7Zero.calls a0_3 a0_4 a0_5 true _ A134.out).mono ?_); rintro e w141 ⟨rfl, hb⟩; have n0_ := Aside0.mk (blk_below (oB BK101.out) hb); have n1_ := Aside0.mk (below_step oL hb); clear BK101; clear HB; have BK101 := n0_; have HB := n1_; clear n0_ n1_; (try clear hb); (try clear hb2); (try clear hk); (try clear hi); obtain ⟨hcz142_0, hcz142_1, hcz142_2, hcz142_3, hcz142_4, hcz142_5, hcz142_6⟩ := cz7 BK101.out; obtain ⟨hfz142_0, hfz142_1, hfz142_2, hfz142_3, hfz142_4, hfz142_5, hfz142_6⟩ := fz7 BK101.out))
                             go_ret; exact ⟨oE, oL⟩
                          ·
                           replace c135 := Bool.eq_false_iff.mpr c135; subst c135; replace H := iF H; obtain rfl := Option.some.inj H; obtain ⟨hcz143_0, hcz143_1, hcz143_2, hcz143_3, hcz143_4, hcz143_5, hcz143_6⟩ := cz7 BK101.out; obtain ⟨hfz143_0, hfz143_1, hfz143_2, hfz143_3, hfz143_4, hfz143_5, hfz143_6⟩ := fz7 BK101.out
                           as_aux_lemma =>
                            go_wp2_with (first | (go_at_call 105; (with_reducible refine (spec_l7Zero.calls a0_3 a0_4 a0_5 false _ A134.out).mono ?_); rintro e w144 ⟨rfl, hb⟩; have n0_ := Aside0.mk (blk_below (oB BK101.out) hb); have n1_ := Aside0.mk (below_step oL hb); clear BK101; clear HB; have BK101 := n0_; have HB := n1_; clear n0_ n1_; (try clear hb); (try clear hb2); (try clear hk); (try clear hi)))
                            go_ret; exact ⟨oE, oL⟩
                         ·
                          rw [if_neg c133] at H; have c133b0 : decide (a0_6 ≤ 6) = false := decide_eq_false c133; clear c133; obtain rfl := Option.some.inj H; obtain ⟨hcz145_0, hcz145_1, hcz145_2, hcz145_3, hcz145_4, hcz145_5, hcz145_6⟩ := cz7 BK101.out; obtain ⟨hfz145_0, hfz145_1, hfz145_2, hfz145_3, hfz145_4, hfz145_5, hfz145_6⟩ := fz7 BK101.out
                          as_aux_lemma =>
                           go_wp2; go_ret; exact ⟨oE, oL⟩
                        ·
                         rw [if_neg c132] at H; have c132b0 : (a0_1 == 2) = false := by simpa using c132
                         (try (have c132b1 : decide (a0_1 = 2) = false := by simpa using c132)); (try (have c132b2 : (a0_1 == 2) = false := by simpa using c132)); (try (have c132b3 : ¬ (a0_1 = 2) := by simpa using c132)); clear c132; obtain rfl := Option.some.inj H; obtain ⟨hcz146_0, hcz146_1, hcz146_2, hcz146_3, hcz146_4, hcz146_5, hcz146_6⟩ := cz7 BK101.out; obtain ⟨hfz146_0, hfz146_1, hfz146_2, hfz146_3, hfz146_4, hfz146_5, hfz146_6⟩ := fz7 BK101.out
                         as_aux_lemma =>
                          go_wp2; go_ret; exact ⟨oE, oL⟩
                      ·
                       rw [if_neg c123] at H; obtain ⟨c123b0, c123b1⟩ := eF c123; obtain rfl := Option.some.inj H
                       as_aux_lemma =>
                        go_wp2; go_ret; exact ⟨oE, oL⟩

end Go.Proofs.Ytjnifnhpnccpcaa.L
