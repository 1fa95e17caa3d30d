-- Made by this session's program gprint.py out of the translation. Not trusted: Lean checks it.
import Derived.Test.YtjnifnhpnccpcaaGx0
import Derived.Test.YtjnifnhpnccpcaaGx13
import Derived.Test.YtjnifnhpnccpcaaGx15
namespace Go.Proofs.Ytjnifnhpnccpcaa.G
open Go.RowKit Go.Proofs.YtjnifnhpnccpcaaW.PrintWords Go.Proofs.YtjnifnhpnccpcaaW.PrintLast Go.Proofs.YtjnifnhpnccpcaaW.PrintMore
attribute [local go_sem] max2_int min2_int max_two min_two max_three min_three max_four min_four   -- for this text's walks alone
set_option linter.unusedVariables false
set_option linter.unusedSimpArgs false

/-! ### impl_readsOf: function 98 -/
def impl_readsOf.j0 : Nat → Bool → Int → Int → Int → Int → Int → Int → Int → Option (Int)
 | 0,_,_,_,_,_,_,_,_ => none
 | k + 1,x14,x102000,x102001,x102002,x102003,x102004,x102005,x102006 => if x14 = true then (some 16) else (if x102000 = 18 then (some 20) else (if x102000 = 19 then (if x102006 = 1 then (some 31) else (some 0)) else (some 0)))
def impl_readsOf.f (k : Nat) (a0_0 : Int) (a0_1 : Int) (a0_2 : Int) (a0_3 : Int) (a0_4 : Int) (a0_5 : Int) (a0_6 : Int) : Option (Int) := if a0_0 = 13 then ((impl_needsOf.f (wrap64 (a0_6 + (wrap64 (8 * a0_2))))).bind fun t102 => (some t102)) else (if a0_0 = 12 then (impl_readsOf.j0 k (decide (a0_6 ≥ 6)) a0_0 a0_1 a0_2 a0_3 a0_4 a0_5 a0_6) else (impl_readsOf.j0 k false a0_0 a0_1 a0_2 a0_3 a0_4 a0_5 a0_6))
theorem impl_readsOf.mono_l : ∀ k,(∀ y0 y1 y2 y3 y4 y5 y6 y7,LeO (impl_readsOf.j0 k y0 y1 y2 y3 y4 y5 y6 y7) (impl_readsOf.j0 (k + 1) y0 y1 y2 y3 y4 y5 y6 y7))
 | 0 => fun _ _ _ _ _ _ _ _ r h => by simp [impl_readsOf.j0] at h
 | k + 1 => by
  have ih0 := impl_readsOf.mono_l k
  ·
   intro y0 y1 y2 y3 y4 y5 y6 y7
   unfold impl_readsOf.j0
   repeat' first
   | (with_reducible exact ih0 _ _ _ _ _ _ _ _)
   | (with_reducible exact LeO.refl _)
   | (with_reducible exact LeO.none _)
   | (with_reducible refine LeO.ite ?_ ?_)
   | (with_reducible refine LeO.bind ?_ (fun _ => ?_))
   | exact ih0 _ _ _ _ _ _ _ _
   | exact LeO.none _
   | refine LeO.ite ?_ ?_
   | refine LeO.bind ?_ (fun _ => ?_)
theorem impl_readsOf.mono : ∀ a0 a1 a2 a3 a4 a5 a6 k,LeO (impl_readsOf.f k a0 a1 a2 a3 a4 a5 a6) (impl_readsOf.f (k + 1) a0 a1 a2 a3 a4 a5 a6) := by
 intro a0 a1 a2 a3 a4 a5 a6 k
 have ih0 := impl_readsOf.mono_l k
 unfold impl_readsOf.f
 repeat' first
   | (with_reducible exact ih0 _ _ _ _ _ _ _ _)
   | (with_reducible exact LeO.refl _)
   | (with_reducible exact LeO.none _)
   | (with_reducible refine LeO.ite ?_ ?_)
   | (with_reducible refine LeO.bind ?_ (fun _ => ?_))
   | exact ih0 _ _ _ _ _ _ _ _
   | exact LeO.none _
   | refine LeO.ite ?_ ?_
   | refine LeO.bind ?_ (fun _ => ?_)
set_option maxHeartbeats 8000000 in
set_option maxRecDepth 100000 in
theorem impl_readsOf.calls (k : Nat) (a0_0 : Int) (a0_1 : Int) (a0_2 : Int) (a0_3 : Int) (a0_4 : Int) (a0_5 : Int) (a0_6 : Int) (r : Int) (w : World) (h : impl_readsOf.f k a0_0 a0_1 a0_2 a0_3 a0_4 a0_5 a0_6 = some r) :
  Calls Try.prog 98 #[.agg #[.int .i64 a0_0,.int .i64 a0_1,.int .i64 a0_2,.int .i64 a0_3,.int .i64 a0_4,.int .i64 a0_5,.int .i64 a0_6]] w fun e w' => e = .returned (.int .i64 r) ∧ Below w.heap.size w w' := by
 have hu77 := Try.underlying77;have HB := aS (Below.refl w.heap.size w);have H : (if a0_0 = 13 then ((impl_needsOf.f (wrap64 (a0_6 + (wrap64 (8 * a0_2))))).bind fun t102 => (some t102)) else (if a0_0 = 12 then (impl_readsOf.j0 k (decide (a0_6 ≥ 6)) a0_0 a0_1 a0_2 a0_3 a0_4 a0_5 a0_6) else (impl_readsOf.j0 k false a0_0 a0_1 a0_2 a0_3 a0_4 a0_5 a0_6))) = some r := h;clear h;by_cases c2 : a0_0 = 13
 ·
  rw [if_pos c2] at H;obtain ⟨c2b0,c2b1⟩ := eT c2;clear c2;obtain ⟨t102,A30,H⟩ := bE H;have A3 := aS A30;clear A30;obtain rfl := Option.some.inj H;go_enter Try.func98,Try.ntmps98;go_wp2_with (first | ((with_reducible refine gate_dst (N := 1) rfl ?_);refine boxE (w := w) oL (cs := #[.int .i64 a0_0,.int .i64 a0_1,.int .i64 a0_2,.int .i64 a0_3,.int .i64 a0_4,.int .i64 a0_5,.int .i64 a0_6]) (t := 77) ?_;clear HB;intro gb101 w4 HB BK101 GW101;have GE101 := GW101;obtain ⟨Z5_0,Z5_1,Z5_2,Z5_3,Z5_4,Z5_5,Z5_6⟩ := cz7 BK101.out;obtain ⟨Y5_0,Y5_1,Y5_2,Y5_3,Y5_4,Y5_5,Y5_6⟩ := fz7 BK101.out) | ((with_reducible refine gate_callee (f := 125) rfl ?_);refine goesL_ (some 13) rfl rfl Try.func125 (by kernel_rfl) rfl #[.int .i64 (wrap64 (a0_6 + (wrap64 (8 * a0_2))))] rfl (by (try simp only [List.map_toArray,List.map_cons,List.map_nil]);first | done | rfl | (simp only [List.length_drop,List.length_take];rfl)) ?_;(with_reducible refine (impl_needsOf.calls (wrap64 (a0_6 + (wrap64 (8 * a0_2)))) t102 _ A3.out).mono ?_);rintro e w6 ⟨rfl,hb⟩;refine ⟨_,rfl,?_⟩;have n0_ := aS (blk_below (oB BK101.out) hb);have n1_ := aS (below_step oL hb);clear BK101;clear HB;have BK101 := n0_;have HB := n1_;clear n0_ n1_;(try clear hb);(try clear hb2);(try clear hk);(try clear hi)));go_ret;exact ⟨oE,oL⟩
 ·
  rw [if_neg c2] at H;obtain ⟨c2b0,c2b1⟩ := eF c2;have HC7 := aS H;clear H;go_enter Try.func98,Try.ntmps98;go_upto_region 3 with (first | ((with_reducible refine gate_dst (N := 1) rfl ?_);refine boxE (w := w) oL (cs := #[.int .i64 a0_0,.int .i64 a0_1,.int .i64 a0_2,.int .i64 a0_3,.int .i64 a0_4,.int .i64 a0_5,.int .i64 a0_6]) (t := 77) ?_;clear HB;intro gb101 w8 HB BK101 GW101;have GE101 := GW101;obtain ⟨Z9_0,Z9_1,Z9_2,Z9_3,Z9_4,Z9_5,Z9_6⟩ := cz7 BK101.out;obtain ⟨Y9_0,Y9_1,Y9_2,Y9_3,Y9_4,Y9_5,Y9_6⟩ := fz7 BK101.out));(try simp only [Act.put,List.setIfInBounds_toArray,List.set_cons_zero,List.set_cons_succ]);go_cut [14] (fun v14 wc => ∃ (kq : Nat) (x14_6 : Bool),v14 = .bool x14_6 ∧ Aside0 (impl_readsOf.j0 kq x14_6 a0_0 a0_1 a0_2 a0_3 a0_4 a0_5 a0_6 = some r) ∧ Aside0 (kq ≤ k) ∧ Aside0 (wc.heap[gb101]? = some (.cells #[.int .i64 a0_0,.int .i64 a0_1,.int .i64 a0_2,.int .i64 a0_3,.int .i64 a0_4,.int .i64 a0_5,.int .i64 a0_6] 77 (0,0))) ∧ Aside0 (Below w.heap.size w wc))
  case first =>
   have H := HC7.out;clear HC7;by_cases c10 : a0_0 = 12;{rw [if_pos c10] at H;obtain ⟨c10b0,c10b1⟩ := eT c10;clear c10;(first | rw [c10b0] | (simp only [i64_w,i32_w];rw [c10b0]) | skip);have H' := aS H;clear H;obtain ⟨Z11_0,Z11_1,Z11_2,Z11_3,Z11_4,Z11_5,Z11_6⟩ := cz7 BK101.out;obtain ⟨Y11_0,Y11_1,Y11_2,Y11_3,Y11_4,Y11_5,Y11_6⟩ := fz7 BK101.out;go_wp2;go_meet;case rel => exact ⟨_,(decide (a0_6 ≥ 6)),oE,H',⟨by first | omega | exact Nat.le_refl _⟩,⟨oB BK101.out⟩,⟨oL⟩⟩};{rw [if_neg c10] at H;obtain ⟨c10b0,c10b1⟩ := eF c10;(first | rw [c10b0] | (simp only [i64_w,i32_w];rw [c10b0]) | skip);have H' := aS H;clear H;obtain ⟨Z12_0,Z12_1,Z12_2,Z12_3,Z12_4,Z12_5,Z12_6⟩ := cz7 BK101.out;obtain ⟨Y12_0,Y12_1,Y12_2,Y12_3,Y12_4,Y12_5,Y12_6⟩ := fz7 BK101.out;go_wp2;go_meet;case rel => exact ⟨_,(false),oE,H',⟨by first | omega | exact Nat.le_refl _⟩,⟨oB BK101.out⟩,⟨oL⟩⟩}
  case rest =>
   clear HC7;(try clear c1);(try clear c2);(try clear c2b0);(try clear c2b1);(try clear p2);(try clear p6);(try clear c9);(try clear c10);(try clear c10b0);(try clear c10b1);(try clear c12);(try clear Z11_0 Z11_1 Z11_2 Z11_3 Z11_4 Z11_5 Z11_6);(try clear Z12_0 Z12_1 Z12_2 Z12_3 Z12_4 Z12_5 Z12_6);(try clear Z5_0 Z5_1 Z5_2 Z5_3 Z5_4 Z5_5 Z5_6);(try clear Z9_0 Z9_1 Z9_2 Z9_3 Z9_4 Z9_5 Z9_6);(try clear Y11_0 Y11_1 Y11_2 Y11_3 Y11_4 Y11_5 Y11_6);(try clear Y12_0 Y12_1 Y12_2 Y12_3 Y12_4 Y12_5 Y12_6);(try clear Y5_0 Y5_1 Y5_2 Y5_3 Y5_4 Y5_5 Y5_6);(try clear Y9_0 Y9_1 Y9_2 Y9_3 Y9_4 Y9_5 Y9_6);obtain ⟨kq,x14_6,rfl,HA,HJ6,BK101,HB⟩ := hcut;cases kq with
   | zero => exact absurd HA.out (by simp [impl_readsOf.j0])
   | succ kj6 =>
    have H := HA.out;clear HA;simp only [impl_readsOf.j0] at H;by_cases c13 : x14_6 = true;{subst c13;replace H := iT H;obtain rfl := Option.some.inj H;go_wp2;go_ret;exact ⟨oE,oL⟩}
    ·
     replace c13 := Bool.eq_false_iff.mpr c13;subst c13;replace H := iF H;by_cases c14 : a0_0 = 18;{rw [if_pos c14] at H;obtain ⟨c14b0,c14b1⟩ := eT c14;clear c14;obtain rfl := Option.some.inj H;obtain ⟨Z15_0,Z15_1,Z15_2,Z15_3,Z15_4,Z15_5,Z15_6⟩ := cz7 BK101.out;obtain ⟨Y15_0,Y15_1,Y15_2,Y15_3,Y15_4,Y15_5,Y15_6⟩ := fz7 BK101.out;go_wp2;go_ret;exact ⟨oE,oL⟩}
     ·
      rw [if_neg c14] at H;obtain ⟨c14b0,c14b1⟩ := eF c14;by_cases c16 : a0_0 = 19
      ·
       rw [if_pos c16] at H;obtain ⟨c16b0,c16b1⟩ := eT c16;clear c16;by_cases c17 : a0_6 = 1;{rw [if_pos c17] at H;obtain ⟨c17b0,c17b1⟩ := eT c17;clear c17;obtain rfl := Option.some.inj H;obtain ⟨Z18_0,Z18_1,Z18_2,Z18_3,Z18_4,Z18_5,Z18_6⟩ := cz7 BK101.out;obtain ⟨Y18_0,Y18_1,Y18_2,Y18_3,Y18_4,Y18_5,Y18_6⟩ := fz7 BK101.out;go_wp2;go_ret;exact ⟨oE,oL⟩};{rw [if_neg c17] at H;obtain ⟨c17b0,c17b1⟩ := eF c17;obtain rfl := Option.some.inj H;obtain ⟨Z19_0,Z19_1,Z19_2,Z19_3,Z19_4,Z19_5,Z19_6⟩ := cz7 BK101.out;obtain ⟨Y19_0,Y19_1,Y19_2,Y19_3,Y19_4,Y19_5,Y19_6⟩ := fz7 BK101.out;go_wp2;go_ret;exact ⟨oE,oL⟩}
      · rw [if_neg c16] at H;obtain ⟨c16b0,c16b1⟩ := eF c16;obtain rfl := Option.some.inj H;obtain ⟨Z20_0,Z20_1,Z20_2,Z20_3,Z20_4,Z20_5,Z20_6⟩ := cz7 BK101.out;obtain ⟨Y20_0,Y20_1,Y20_2,Y20_3,Y20_4,Y20_5,Y20_6⟩ := fz7 BK101.out;go_wp2;go_ret;exact ⟨oE,oL⟩

/-! ### impl_mayFault: function 99 -/
mutual
def impl_mayFault.j0 : Nat → Int → Bool → Int → Int → Int → Int → Int → Int → Int → Option (Bool)
 | 0,_,_,_,_,_,_,_,_,_ => none
 | k + 1,x4,x5,x102000,x102001,x102002,x102003,x102004,x102005,x102006 => if x5 = true then (some true) else (if x4 = 15 then (if x102006 = 0 then (some true) else (if x102006 = 1 then (some true) else (if x102006 = 3 then (some true) else (some (x102006 == 4))))) else (if x4 = 19 then (some (x102006 == 0)) else (if x4 = 10 then (impl_mayFault.j1 k (x4 == 10) x102000 x102001 x102002 x102003 x102004 x102005 x102006) else (impl_mayFault.j1 k (x4 == 14) x102000 x102001 x102002 x102003 x102004 x102005 x102006))))
def impl_mayFault.j1 : Nat → Bool → Int → Int → Int → Int → Int → Int → Int → Option (Bool)
 | 0,_,_,_,_,_,_,_,_ => none
 | k + 1,x33,x102000,x102001,x102002,x102003,x102004,x102005,x102006 => if x33 = true then ((impl_mayWrite.f x102000 x102001 x102002 x102003 x102004 x102005 x102006).bind fun t102 => (some t102)) else ((impl_isMemory.f x102003).bind fun t103 => (some t103))
end
def impl_mayFault.f (k : Nat) (a0_0 : Int) (a0_1 : Int) (a0_2 : Int) (a0_3 : Int) (a0_4 : Int) (a0_5 : Int) (a0_6 : Int) : Option (Bool) := if a0_0 = 17 then (impl_mayFault.j0 k a0_0 (a0_0 == 17) a0_0 a0_1 a0_2 a0_3 a0_4 a0_5 a0_6) else (impl_mayFault.j0 k a0_0 (a0_0 == 18) a0_0 a0_1 a0_2 a0_3 a0_4 a0_5 a0_6)
theorem impl_mayFault.mono_l : ∀ k,(∀ y0 y1 y2 y3 y4 y5 y6 y7 y8,LeO (impl_mayFault.j0 k y0 y1 y2 y3 y4 y5 y6 y7 y8) (impl_mayFault.j0 (k + 1) y0 y1 y2 y3 y4 y5 y6 y7 y8)) ∧ (∀ y0 y1 y2 y3 y4 y5 y6 y7,LeO (impl_mayFault.j1 k y0 y1 y2 y3 y4 y5 y6 y7) (impl_mayFault.j1 (k + 1) y0 y1 y2 y3 y4 y5 y6 y7))
 | 0 => ⟨fun _ _ _ _ _ _ _ _ _ r h => by simp [impl_mayFault.j0] at h,fun _ _ _ _ _ _ _ _ r h => by simp [impl_mayFault.j1] at h⟩
 | k + 1 => by
  obtain ⟨ih0,ih1⟩ := impl_mayFault.mono_l k
  refine ⟨?_,?_⟩
  ·
   intro y0 y1 y2 y3 y4 y5 y6 y7 y8
   unfold impl_mayFault.j0
   repeat' first
   | (with_reducible exact ih0 _ _ _ _ _ _ _ _ _)
   | (with_reducible exact ih1 _ _ _ _ _ _ _ _)
   | (with_reducible exact LeO.refl _)
   | (with_reducible exact LeO.none _)
   | (with_reducible refine LeO.ite ?_ ?_)
   | (with_reducible refine LeO.bind ?_ (fun _ => ?_))
   | exact ih0 _ _ _ _ _ _ _ _ _
   | exact ih1 _ _ _ _ _ _ _ _
   | exact LeO.none _
   | refine LeO.ite ?_ ?_
   | refine LeO.bind ?_ (fun _ => ?_)
  ·
   intro y0 y1 y2 y3 y4 y5 y6 y7
   unfold impl_mayFault.j1
   repeat' first
   | (with_reducible exact ih0 _ _ _ _ _ _ _ _ _)
   | (with_reducible exact ih1 _ _ _ _ _ _ _ _)
   | (with_reducible exact LeO.refl _)
   | (with_reducible exact LeO.none _)
   | (with_reducible refine LeO.ite ?_ ?_)
   | (with_reducible refine LeO.bind ?_ (fun _ => ?_))
   | exact ih0 _ _ _ _ _ _ _ _ _
   | exact ih1 _ _ _ _ _ _ _ _
   | exact LeO.none _
   | refine LeO.ite ?_ ?_
   | refine LeO.bind ?_ (fun _ => ?_)
theorem impl_mayFault.mono : ∀ a0 a1 a2 a3 a4 a5 a6 k,LeO (impl_mayFault.f k a0 a1 a2 a3 a4 a5 a6) (impl_mayFault.f (k + 1) a0 a1 a2 a3 a4 a5 a6) := by
 intro a0 a1 a2 a3 a4 a5 a6 k
 obtain ⟨ih0,ih1⟩ := impl_mayFault.mono_l k
 unfold impl_mayFault.f
 repeat' first
   | (with_reducible exact ih0 _ _ _ _ _ _ _ _ _)
   | (with_reducible exact ih1 _ _ _ _ _ _ _ _)
   | (with_reducible exact LeO.refl _)
   | (with_reducible exact LeO.none _)
   | (with_reducible refine LeO.ite ?_ ?_)
   | (with_reducible refine LeO.bind ?_ (fun _ => ?_))
   | exact ih0 _ _ _ _ _ _ _ _ _
   | exact ih1 _ _ _ _ _ _ _ _
   | exact LeO.none _
   | refine LeO.ite ?_ ?_
   | refine LeO.bind ?_ (fun _ => ?_)
set_option maxHeartbeats 8000000 in
set_option maxRecDepth 100000 in
theorem impl_mayFault.calls (k : Nat) (a0_0 : Int) (a0_1 : Int) (a0_2 : Int) (a0_3 : Int) (a0_4 : Int) (a0_5 : Int) (a0_6 : Int) (r : Bool) (w : World) (h : impl_mayFault.f k a0_0 a0_1 a0_2 a0_3 a0_4 a0_5 a0_6 = some r) :
  Calls Try.prog 99 #[.agg #[.int .i64 a0_0,.int .i64 a0_1,.int .i64 a0_2,.int .i64 a0_3,.int .i64 a0_4,.int .i64 a0_5,.int .i64 a0_6]] w fun e w' => e = .returned (.bool r) ∧ Below w.heap.size w w' := by
 have hu77 := Try.underlying77;have HB := aS (Below.refl w.heap.size w);have H : (if a0_0 = 17 then (impl_mayFault.j0 k a0_0 (a0_0 == 17) a0_0 a0_1 a0_2 a0_3 a0_4 a0_5 a0_6) else (impl_mayFault.j0 k a0_0 (a0_0 == 18) a0_0 a0_1 a0_2 a0_3 a0_4 a0_5 a0_6)) = some r := h;clear h;have HC2 := aS H;clear H;go_enter Try.func99,Try.ntmps99;go_upto_if 5 with (first | ((with_reducible refine gate_dst (N := 1) rfl ?_);refine boxE (w := w) oL (cs := #[.int .i64 a0_0,.int .i64 a0_1,.int .i64 a0_2,.int .i64 a0_3,.int .i64 a0_4,.int .i64 a0_5,.int .i64 a0_6]) (t := 77) ?_;clear HB;intro gb101 w3 HB BK101 GW101;have GE101 := GW101;obtain ⟨Z4_0,Z4_1,Z4_2,Z4_3,Z4_4,Z4_5,Z4_6⟩ := cz7 BK101.out;obtain ⟨Y4_0,Y4_1,Y4_2,Y4_3,Y4_4,Y4_5,Y4_6⟩ := fz7 BK101.out));(try simp only [Act.put,List.setIfInBounds_toArray,List.set_cons_zero,List.set_cons_succ]);go_cut [5] (fun v5 wc => ∃ (kq : Nat) (x5_1 : Bool),v5 = .bool x5_1 ∧ Aside0 (impl_mayFault.j0 kq a0_0 x5_1 a0_0 a0_1 a0_2 a0_3 a0_4 a0_5 a0_6 = some r) ∧ Aside0 (kq ≤ k) ∧ Aside0 (wc.heap[gb101]? = some (.cells #[.int .i64 a0_0,.int .i64 a0_1,.int .i64 a0_2,.int .i64 a0_3,.int .i64 a0_4,.int .i64 a0_5,.int .i64 a0_6] 77 (0,0))) ∧ Aside0 (Below w.heap.size w wc))
 case first =>
  have H := HC2.out;clear HC2;by_cases c5 : a0_0 = 17;{rw [if_pos c5] at H;obtain ⟨c5b0,c5b1⟩ := eT c5;clear c5;(first | rw [c5b0] | (simp only [i64_w,i32_w];rw [c5b0]) | skip);have H' := aS H;clear H;go_wp2;go_meet;case rel => exact ⟨_,((a0_0 == 17)),oE,H',⟨by first | omega | exact Nat.le_refl _⟩,⟨oB BK101.out⟩,⟨oL⟩⟩};{rw [if_neg c5] at H;obtain ⟨c5b0,c5b1⟩ := eF c5;(first | rw [c5b0] | (simp only [i64_w,i32_w];rw [c5b0]) | skip);have H' := aS H;clear H;go_wp2;go_meet;case rel => exact ⟨_,((a0_0 == 18)),oE,H',⟨by first | omega | exact Nat.le_refl _⟩,⟨oB BK101.out⟩,⟨oL⟩⟩}
 case rest =>
  clear HC2;(try clear p2);(try clear c5);(try clear c5b0);(try clear c5b1);(try clear Z4_0 Z4_1 Z4_2 Z4_3 Z4_4 Z4_5 Z4_6);(try clear Y4_0 Y4_1 Y4_2 Y4_3 Y4_4 Y4_5 Y4_6);obtain ⟨kq,x5_1,rfl,HA,HJ1,BK101,HB⟩ := hcut;cases kq with
  | zero => exact absurd HA.out (by simp [impl_mayFault.j0])
  | succ kj1 =>
   have H := HA.out;clear HA;simp only [impl_mayFault.j0] at H;by_cases c6 : x5_1 = true;{subst c6;replace H := iT H;obtain rfl := Option.some.inj H;go_wp2;go_ret;exact ⟨oE,oL⟩}
   ·
    replace c6 := Bool.eq_false_iff.mpr c6;subst c6;replace H := iF H;by_cases c7 : a0_0 = 15
    ·
     rw [if_pos c7] at H;obtain ⟨c7b0,c7b1⟩ := eT c7;clear c7;by_cases c8 : a0_6 = 0;{rw [if_pos c8] at H;obtain ⟨c8b0,c8b1⟩ := eT c8;clear c8;obtain rfl := Option.some.inj H;obtain ⟨Z9_0,Z9_1,Z9_2,Z9_3,Z9_4,Z9_5,Z9_6⟩ := cz7 BK101.out;obtain ⟨Y9_0,Y9_1,Y9_2,Y9_3,Y9_4,Y9_5,Y9_6⟩ := fz7 BK101.out;go_wp2;go_ret;exact ⟨oE,oL⟩}
     ·
      rw [if_neg c8] at H;obtain ⟨c8b0,c8b1⟩ := eF c8;by_cases c10 : a0_6 = 1;{rw [if_pos c10] at H;obtain ⟨c10b0,c10b1⟩ := eT c10;clear c10;obtain rfl := Option.some.inj H;obtain ⟨Z11_0,Z11_1,Z11_2,Z11_3,Z11_4,Z11_5,Z11_6⟩ := cz7 BK101.out;obtain ⟨Y11_0,Y11_1,Y11_2,Y11_3,Y11_4,Y11_5,Y11_6⟩ := fz7 BK101.out;go_wp2;go_ret;exact ⟨oE,oL⟩}
      ·
       rw [if_neg c10] at H;obtain ⟨c10b0,c10b1⟩ := eF c10;by_cases c12 : a0_6 = 3;{rw [if_pos c12] at H;obtain ⟨c12b0,c12b1⟩ := eT c12;clear c12;obtain rfl := Option.some.inj H;obtain ⟨Z13_0,Z13_1,Z13_2,Z13_3,Z13_4,Z13_5,Z13_6⟩ := cz7 BK101.out;obtain ⟨Y13_0,Y13_1,Y13_2,Y13_3,Y13_4,Y13_5,Y13_6⟩ := fz7 BK101.out;go_wp2;go_ret;exact ⟨oE,oL⟩};{rw [if_neg c12] at H;obtain ⟨c12b0,c12b1⟩ := eF c12;obtain rfl := Option.some.inj H;obtain ⟨Z14_0,Z14_1,Z14_2,Z14_3,Z14_4,Z14_5,Z14_6⟩ := cz7 BK101.out;obtain ⟨Y14_0,Y14_1,Y14_2,Y14_3,Y14_4,Y14_5,Y14_6⟩ := fz7 BK101.out;go_wp2;go_ret;exact ⟨oE,oL⟩}
    ·
     rw [if_neg c7] at H;obtain ⟨c7b0,c7b1⟩ := eF c7;by_cases c15 : a0_0 = 19;{rw [if_pos c15] at H;obtain ⟨c15b0,c15b1⟩ := eT c15;clear c15;obtain rfl := Option.some.inj H;obtain ⟨Z16_0,Z16_1,Z16_2,Z16_3,Z16_4,Z16_5,Z16_6⟩ := cz7 BK101.out;obtain ⟨Y16_0,Y16_1,Y16_2,Y16_3,Y16_4,Y16_5,Y16_6⟩ := fz7 BK101.out;go_wp2;go_ret;exact ⟨oE,oL⟩}
     ·
      rw [if_neg c15] at H;obtain ⟨c15b0,c15b1⟩ := eF c15;have HC17 := aS H;clear H;go_upto_if 33 with (fail);go_cut [33] (fun v33 wc => ∃ (kq : Nat) (x33_16 : Bool),v33 = .bool x33_16 ∧ Aside0 (impl_mayFault.j1 kq x33_16 a0_0 a0_1 a0_2 a0_3 a0_4 a0_5 a0_6 = some r) ∧ Aside0 (kq ≤ kj1) ∧ Aside0 (wc.heap[gb101]? = some (.cells #[.int .i64 a0_0,.int .i64 a0_1,.int .i64 a0_2,.int .i64 a0_3,.int .i64 a0_4,.int .i64 a0_5,.int .i64 a0_6] 77 (0,0))) ∧ Aside0 (Below w.heap.size w wc))
      case first =>
       have H := HC17.out;clear HC17;by_cases c18 : a0_0 = 10;{rw [if_pos c18] at H;obtain ⟨c18b0,c18b1⟩ := eT c18;clear c18;(first | rw [c18b0] | (simp only [i64_w,i32_w];rw [c18b0]) | skip);have H' := aS H;clear H;go_wp2;go_meet;case rel => exact ⟨_,((a0_0 == 10)),oE,H',⟨by have := HJ1.out;first | omega | exact Nat.le_refl _⟩,⟨oB BK101.out⟩,⟨oL⟩⟩};{rw [if_neg c18] at H;obtain ⟨c18b0,c18b1⟩ := eF c18;(first | rw [c18b0] | (simp only [i64_w,i32_w];rw [c18b0]) | skip);have H' := aS H;clear H;go_wp2;go_meet;case rel => exact ⟨_,((a0_0 == 14)),oE,H',⟨by have := HJ1.out;first | omega | exact Nat.le_refl _⟩,⟨oB BK101.out⟩,⟨oL⟩⟩}
      case rest =>
       clear HC17;(try clear c1);(try clear p2);(try clear c5);(try clear c5b0);(try clear c5b1);(try clear c6);(try clear c7);(try clear c7b0);(try clear c7b1);(try clear c8);(try clear c8b0);(try clear c8b1);(try clear c9);(try clear c10);(try clear c10b0);(try clear c10b1);(try clear c12);(try clear c12b0);(try clear c12b1);(try clear c15);(try clear c15b0);(try clear c15b1);(try clear c18);(try clear c18b0);(try clear c18b1);(try clear Z11_0 Z11_1 Z11_2 Z11_3 Z11_4 Z11_5 Z11_6);(try clear Z13_0 Z13_1 Z13_2 Z13_3 Z13_4 Z13_5 Z13_6);(try clear Z14_0 Z14_1 Z14_2 Z14_3 Z14_4 Z14_5 Z14_6);(try clear Z16_0 Z16_1 Z16_2 Z16_3 Z16_4 Z16_5 Z16_6);(try clear Z4_0 Z4_1 Z4_2 Z4_3 Z4_4 Z4_5 Z4_6);(try clear Z9_0 Z9_1 Z9_2 Z9_3 Z9_4 Z9_5 Z9_6);(try clear Y11_0 Y11_1 Y11_2 Y11_3 Y11_4 Y11_5 Y11_6);(try clear Y13_0 Y13_1 Y13_2 Y13_3 Y13_4 Y13_5 Y13_6);(try clear Y14_0 Y14_1 Y14_2 Y14_3 Y14_4 Y14_5 Y14_6);(try clear Y16_0 Y16_1 Y16_2 Y16_3 Y16_4 Y16_5 Y16_6);(try clear Y4_0 Y4_1 Y4_2 Y4_3 Y4_4 Y4_5 Y4_6);(try clear Y9_0 Y9_1 Y9_2 Y9_3 Y9_4 Y9_5 Y9_6);(try clear p2);obtain ⟨kq,x33_16,rfl,HA,HJ16,BK101,HB⟩ := hcut;cases kq with
       | zero => exact absurd HA.out (by simp [impl_mayFault.j1])
       | succ kj16 =>
        have H := HA.out;clear HA;simp only [impl_mayFault.j1] at H;by_cases c19 : x33_16 = true
        ·
         subst c19;replace H := iT H;obtain ⟨t102,A200,H⟩ := bE H;have A20 := aS A200;clear A200;obtain rfl := Option.some.inj H;obtain ⟨Z21_0,Z21_1,Z21_2,Z21_3,Z21_4,Z21_5,Z21_6⟩ := cz7 BK101.out;obtain ⟨Y21_0,Y21_1,Y21_2,Y21_3,Y21_4,Y21_5,Y21_6⟩ := fz7 BK101.out;go_wp2_with (first | ((with_reducible refine gate_callee (f := 97) rfl ?_);refine goesL_ (some 37) rfl rfl Try.func97 (by kernel_rfl) rfl #[.agg #[.int .i64 a0_0,.int .i64 a0_1,.int .i64 a0_2,.int .i64 a0_3,.int .i64 a0_4,.int .i64 a0_5,.int .i64 a0_6]] rfl (by (try simp only [List.map_toArray,List.map_cons,List.map_nil]);first | done | rfl | (simp only [List.length_drop,List.length_take];rfl)) ?_;(with_reducible refine (impl_mayWrite.calls a0_0 a0_1 a0_2 a0_3 a0_4 a0_5 a0_6 t102 _ A20.out).mono ?_);rintro e w22 ⟨rfl,hb⟩;refine ⟨_,rfl,?_⟩;have n0_ := aS (blk_below (oB BK101.out) hb);have n1_ := aS (below_step oL hb);clear BK101;clear HB;have BK101 := n0_;have HB := n1_;clear n0_ n1_;(try clear hb);(try clear hb2);(try clear hk);(try clear hi)));go_ret;exact ⟨oE,oL⟩
        ·
         replace c19 := Bool.eq_false_iff.mpr c19;subst c19;replace H := iF H;obtain ⟨t103,A230,H⟩ := bE H;have A23 := aS A230;clear A230;obtain rfl := Option.some.inj H;obtain ⟨Z24_0,Z24_1,Z24_2,Z24_3,Z24_4,Z24_5,Z24_6⟩ := cz7 BK101.out;obtain ⟨Y24_0,Y24_1,Y24_2,Y24_3,Y24_4,Y24_5,Y24_6⟩ := fz7 BK101.out;go_wp2_with (first | ((with_reducible refine gate_callee (f := 124) rfl ?_);refine goesQ (some 41) Try.func124 #[.int .i64 a0_3] (impl_isMemory.calls a0_3 t103 _ A23.out) fun nd => ?_));go_ret;exact ⟨oE,oL⟩

end Go.Proofs.Ytjnifnhpnccpcaa.G
