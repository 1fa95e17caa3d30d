-- Made by this session's program gprint.py out of the translation. Not trusted: Lean checks it.
import Derived.Test.YtjnifnhpnccpcaaGx0
import Derived.Test.YtjnifnhpnccpcaaGx3
import Derived.Test.YtjnifnhpnccpcaaGx4
namespace Go.Proofs.Ytjnifnhpnccpcaa.G
open Go.RowKit Go.Proofs.YtjnifnhpnccpcaaW.PrintWords Go.Proofs.YtjnifnhpnccpcaaW.PrintLast Go.Proofs.YtjnifnhpnccpcaaW.PrintMore
attribute [local go_sem] max2_int min2_int max_two min_two max_three min_three max_four min_four   -- for this text's walks alone
set_option linter.unusedVariables false
set_option linter.unusedSimpArgs false

/-! ### spec_GoodIns: function 53 -/
mutual
def spec_GoodIns.j0 : Nat → Bool → Int → Int → Int → Int → Int → Int → Int → Option (Bool)
 | 0,_,_,_,_,_,_,_,_ => none
 | k + 1,x43,x102000,x102001,x102002,x102003,x102004,x102005,x102006 => if x43 = true then (some false) else (if x102000 = 1 then (spec_GoodIns.j1 k (x102001 == 2) x102003 x102000 (x102000 == 1) x102000 x102001 x102002 x102003 x102004 x102005 x102006) else (if x102000 = 3 then (spec_GoodIns.j1 k (x102001 == 2) x102003 x102000 (x102000 == 3) x102000 x102001 x102002 x102003 x102004 x102005 x102006) else (if x102000 = 4 then (spec_GoodIns.j1 k (x102001 == 2) x102003 x102000 (x102000 == 4) x102000 x102001 x102002 x102003 x102004 x102005 x102006) else (if x102000 = 5 then (spec_GoodIns.j1 k (x102001 == 2) x102003 x102000 (x102000 == 5) x102000 x102001 x102002 x102003 x102004 x102005 x102006) else (if x102000 = 6 then (spec_GoodIns.j1 k (x102001 == 2) x102003 x102000 (x102000 == 6) x102000 x102001 x102002 x102003 x102004 x102005 x102006) else (if x102000 = 7 then (spec_GoodIns.j1 k (x102001 == 2) x102003 x102000 (x102000 == 7) x102000 x102001 x102002 x102003 x102004 x102005 x102006) else (spec_GoodIns.j1 k (x102001 == 2) x102003 x102000 (x102000 == 8) x102000 x102001 x102002 x102003 x102004 x102005 x102006)))))))
def spec_GoodIns.j1 : Nat → Bool → Int → Int → Bool → Int → Int → Int → Int → Int → Int → Int → Option (Bool)
 | 0,_,_,_,_,_,_,_,_,_,_,_ => none
 | k + 1,x3,x4,x51,x52,x102000,x102001,x102002,x102003,x102004,x102005,x102006 => if x52 = true then (if x102006 = 0 then (if x3 = true then (some true) else (some (x4 != 1))) else (some false)) else (if x51 = 2 then (if x102006 = 0 then (if x4 = 0 then (some true) else ((spec_l7Memory.f x4).bind fun t106 => (some t106))) else (some false)) else (if x51 = 9 then (if x3 = true then (some (x102006 == 0)) else (some false)) else (if x51 = 10 then (if x3 = true then (if x102006 = 0 then ((spec_l7Plain.f x4).bind fun t107 => (some t107)) else (some false)) else (some false)) else (if x51 = 11 then (if x102002 = 0 then (if x102006 ≤ 3 then (if x4 = 0 then (some true) else ((spec_l7Memory.f x4).bind fun t108 => (some t108))) else (some false)) else (some false)) else (if x51 = 12 then (some (x4 == 0)) else (if x51 = 13 then (if x3 = true then (if x102002 ≤ 1 then (some (x4 == 7)) else (some false)) else (some false)) else (if x51 = 14 then (if x3 = true then (if x102002 = 0 then (if x102006 ≤ 1 then ((spec_l7Plain.f x4).bind fun t109 => (some t109)) else (some false)) else (some false)) else (some false)) else (if x51 = 16 then (spec_GoodIns.j2 k x3 x4 x51 (x51 == 16) x102000 x102001 x102002 x102003 x102004 x102005 x102006) else (spec_GoodIns.j2 k x3 x4 x51 (x51 == 17) x102000 x102001 x102002 x102003 x102004 x102005 x102006)))))))))
def spec_GoodIns.j2 : Nat → Bool → Int → Int → Bool → Int → Int → Int → Int → Int → Int → Int → Option (Bool)
 | 0,_,_,_,_,_,_,_,_,_,_,_ => none
 | k + 1,x3,x4,x51,x154,x102000,x102001,x102002,x102003,x102004,x102005,x102006 => if x154 = true then (if x3 = true then (if x102006 = 0 then (some (x4 != 1)) else (some false)) else (some false)) else (if x51 = 18 then (if x3 = true then (some false) else (if x102006 ≤ 1 then (some (x4 == 0)) else (some false))) else (if x51 = 19 then (if x3 = true then (if x102006 = 0 then (if x102002 = 0 then ((spec_l7Now.f x102003 x102004 x102005).bind fun t110 => (if t110 = true then (some true) else (if x102006 = 1 then ((spec_l7Zero.f x102003 x102004 x102005).bind fun t111 => (some t111)) else (some false)))) else (if x102006 = 1 then ((spec_l7Zero.f x102003 x102004 x102005).bind fun t112 => (some t112)) else (some false))) else (if x102006 = 1 then ((spec_l7Zero.f x102003 x102004 x102005).bind fun t113 => (some t113)) else (some false))) else (some false)) else (if x51 = 15 then (if x102006 = 3 then (if x3 = true then (if x102002 = 0 then ((spec_l7Now.f x102003 x102004 x102005).bind fun t114 => (some t114)) else (some false)) else (some false)) else (if x3 = true then (if x102006 ≤ 6 then ((spec_l7Zero.f x102003 x102004 x102005).bind fun t115 => (if t115 = true then (if x102006 > 3 then (some true) else (some (x102002 == 0))) else (some false))) else (some false)) else (some false))) else (some false))))
end
def spec_GoodIns.f (k : Nat) (a0_0 : Int) (a0_1 : Int) (a0_2 : Int) (a0_3 : Int) (a0_4 : Int) (a0_5 : Int) (a0_6 : Int) : Option (Bool) := (spec_l1Size.f a0_1).bind fun t102 => (if t102 = true then ((spec_l1In.f a0_2 0 3).bind fun t103 => (if t103 = true then ((spec_GoodOperand.f k a0_3 a0_4 a0_5).bind fun t104 => (if t104 = true then ((spec_l1In.f a0_6 0 7).bind fun t105 => (if t105 = true then (if a0_3 = 7 then (if a0_1 = 1 then (spec_GoodIns.j0 k (decide (a0_5 > 255)) a0_0 a0_1 a0_2 a0_3 a0_4 a0_5 a0_6) else (spec_GoodIns.j0 k false a0_0 a0_1 a0_2 a0_3 a0_4 a0_5 a0_6)) else (spec_GoodIns.j0 k false a0_0 a0_1 a0_2 a0_3 a0_4 a0_5 a0_6)) else (spec_GoodIns.j0 k true a0_0 a0_1 a0_2 a0_3 a0_4 a0_5 a0_6))) else (spec_GoodIns.j0 k true a0_0 a0_1 a0_2 a0_3 a0_4 a0_5 a0_6))) else (spec_GoodIns.j0 k true a0_0 a0_1 a0_2 a0_3 a0_4 a0_5 a0_6))) else (spec_GoodIns.j0 k true a0_0 a0_1 a0_2 a0_3 a0_4 a0_5 a0_6))
theorem spec_GoodIns.mono_l : ∀ k,(∀ y0 y1 y2 y3 y4 y5 y6 y7,LeO (spec_GoodIns.j0 k y0 y1 y2 y3 y4 y5 y6 y7) (spec_GoodIns.j0 (k + 1) y0 y1 y2 y3 y4 y5 y6 y7)) ∧ (∀ y0 y1 y2 y3 y4 y5 y6 y7 y8 y9 y10,LeO (spec_GoodIns.j1 k y0 y1 y2 y3 y4 y5 y6 y7 y8 y9 y10) (spec_GoodIns.j1 (k + 1) y0 y1 y2 y3 y4 y5 y6 y7 y8 y9 y10)) ∧ (∀ y0 y1 y2 y3 y4 y5 y6 y7 y8 y9 y10,LeO (spec_GoodIns.j2 k y0 y1 y2 y3 y4 y5 y6 y7 y8 y9 y10) (spec_GoodIns.j2 (k + 1) y0 y1 y2 y3 y4 y5 y6 y7 y8 y9 y10))
 | 0 => ⟨fun _ _ _ _ _ _ _ _ r h => by simp [spec_GoodIns.j0] at h,fun _ _ _ _ _ _ _ _ _ _ _ r h => by simp [spec_GoodIns.j1] at h,fun _ _ _ _ _ _ _ _ _ _ _ r h => by simp [spec_GoodIns.j2] at h⟩
 | k + 1 => by
  obtain ⟨ih0,ih1,ih2⟩ := spec_GoodIns.mono_l k
  refine ⟨?_,?_,?_⟩
  ·
   intro y0 y1 y2 y3 y4 y5 y6 y7
   unfold spec_GoodIns.j0
   repeat' first
   | (with_reducible exact ih0 _ _ _ _ _ _ _ _)
   | (with_reducible exact ih1 _ _ _ _ _ _ _ _ _ _ _)
   | (with_reducible exact ih2 _ _ _ _ _ _ _ _ _ _ _)
   | (with_reducible exact spec_GoodOperand.mono _ _ _ _)
   | (with_reducible exact LeO.refl _)
   | (with_reducible exact LeO.none _)
   | (with_reducible refine LeO.ite ?_ ?_)
   | (with_reducible refine LeO.bind ?_ (fun _ => ?_))
   | exact ih0 _ _ _ _ _ _ _ _
   | exact ih1 _ _ _ _ _ _ _ _ _ _ _
   | exact ih2 _ _ _ _ _ _ _ _ _ _ _
   | exact spec_GoodOperand.mono _ _ _ _
   | exact LeO.none _
   | refine LeO.ite ?_ ?_
   | refine LeO.bind ?_ (fun _ => ?_)
  ·
   intro y0 y1 y2 y3 y4 y5 y6 y7 y8 y9 y10
   unfold spec_GoodIns.j1
   repeat' first
   | (with_reducible exact ih0 _ _ _ _ _ _ _ _)
   | (with_reducible exact ih1 _ _ _ _ _ _ _ _ _ _ _)
   | (with_reducible exact ih2 _ _ _ _ _ _ _ _ _ _ _)
   | (with_reducible exact spec_GoodOperand.mono _ _ _ _)
   | (with_reducible exact LeO.refl _)
   | (with_reducible exact LeO.none _)
   | (with_reducible refine LeO.ite ?_ ?_)
   | (with_reducible refine LeO.bind ?_ (fun _ => ?_))
   | exact ih0 _ _ _ _ _ _ _ _
   | exact ih1 _ _ _ _ _ _ _ _ _ _ _
   | exact ih2 _ _ _ _ _ _ _ _ _ _ _
   | exact spec_GoodOperand.mono _ _ _ _
   | exact LeO.none _
   | refine LeO.ite ?_ ?_
   | refine LeO.bind ?_ (fun _ => ?_)
  ·
   intro y0 y1 y2 y3 y4 y5 y6 y7 y8 y9 y10
   unfold spec_GoodIns.j2
   repeat' first
   | (with_reducible exact ih0 _ _ _ _ _ _ _ _)
   | (with_reducible exact ih1 _ _ _ _ _ _ _ _ _ _ _)
   | (with_reducible exact ih2 _ _ _ _ _ _ _ _ _ _ _)
   | (with_reducible exact spec_GoodOperand.mono _ _ _ _)
   | (with_reducible exact LeO.refl _)
   | (with_reducible exact LeO.none _)
   | (with_reducible refine LeO.ite ?_ ?_)
   | (with_reducible refine LeO.bind ?_ (fun _ => ?_))
   | exact ih0 _ _ _ _ _ _ _ _
   | exact ih1 _ _ _ _ _ _ _ _ _ _ _
   | exact ih2 _ _ _ _ _ _ _ _ _ _ _
   | exact spec_GoodOperand.mono _ _ _ _
   | exact LeO.none _
   | refine LeO.ite ?_ ?_
   | refine LeO.bind ?_ (fun _ => ?_)
theorem spec_GoodIns.mono : ∀ a0 a1 a2 a3 a4 a5 a6 k,LeO (spec_GoodIns.f k a0 a1 a2 a3 a4 a5 a6) (spec_GoodIns.f (k + 1) a0 a1 a2 a3 a4 a5 a6) := by
 intro a0 a1 a2 a3 a4 a5 a6 k
 obtain ⟨ih0,ih1,ih2⟩ := spec_GoodIns.mono_l k
 unfold spec_GoodIns.f
 repeat' first
   | (with_reducible exact ih0 _ _ _ _ _ _ _ _)
   | (with_reducible exact ih1 _ _ _ _ _ _ _ _ _ _ _)
   | (with_reducible exact ih2 _ _ _ _ _ _ _ _ _ _ _)
   | (with_reducible exact spec_GoodOperand.mono _ _ _ _)
   | (with_reducible exact LeO.refl _)
   | (with_reducible exact LeO.none _)
   | (with_reducible refine LeO.ite ?_ ?_)
   | (with_reducible refine LeO.bind ?_ (fun _ => ?_))
   | exact ih0 _ _ _ _ _ _ _ _
   | exact ih1 _ _ _ _ _ _ _ _ _ _ _
   | exact ih2 _ _ _ _ _ _ _ _ _ _ _
   | exact spec_GoodOperand.mono _ _ _ _
   | exact LeO.none _
   | refine LeO.ite ?_ ?_
   | refine LeO.bind ?_ (fun _ => ?_)
set_option maxHeartbeats 8000000 in
set_option maxRecDepth 100000 in
theorem spec_GoodIns.calls (k : Nat) (a0_0 : Int) (a0_1 : Int) (a0_2 : Int) (a0_3 : Int) (a0_4 : Int) (a0_5 : Int) (a0_6 : Int) (r : Bool) (w : World) (h : spec_GoodIns.f k a0_0 a0_1 a0_2 a0_3 a0_4 a0_5 a0_6 = some r) :
  Calls Try.prog 53 #[.agg #[.int .i64 a0_0,.int .i64 a0_1,.int .i64 a0_2,.int .i64 a0_3,.int .i64 a0_4,.int .i64 a0_5,.int .i64 a0_6]] w fun e w' => e = .returned (.bool r) ∧ Below w.heap.size w w' := by
 have hu77 := Try.underlying77;have hu75 := Try.underlying75;have HB := aS (Below.refl w.heap.size w);have H : ((spec_l1Size.f a0_1).bind fun t102 => (if t102 = true then ((spec_l1In.f a0_2 0 3).bind fun t103 => (if t103 = true then ((spec_GoodOperand.f k a0_3 a0_4 a0_5).bind fun t104 => (if t104 = true then ((spec_l1In.f a0_6 0 7).bind fun t105 => (if t105 = true then (if a0_3 = 7 then (if a0_1 = 1 then (spec_GoodIns.j0 k (decide (a0_5 > 255)) a0_0 a0_1 a0_2 a0_3 a0_4 a0_5 a0_6) else (spec_GoodIns.j0 k false a0_0 a0_1 a0_2 a0_3 a0_4 a0_5 a0_6)) else (spec_GoodIns.j0 k false a0_0 a0_1 a0_2 a0_3 a0_4 a0_5 a0_6)) else (spec_GoodIns.j0 k true a0_0 a0_1 a0_2 a0_3 a0_4 a0_5 a0_6))) else (spec_GoodIns.j0 k true a0_0 a0_1 a0_2 a0_3 a0_4 a0_5 a0_6))) else (spec_GoodIns.j0 k true a0_0 a0_1 a0_2 a0_3 a0_4 a0_5 a0_6))) else (spec_GoodIns.j0 k true a0_0 a0_1 a0_2 a0_3 a0_4 a0_5 a0_6))) = some r := h;clear h;have HC2 := aS H;clear H;go_enter Try.func53,Try.ntmps53;go_upto_region 1 with (first | ((with_reducible refine gate_dst (N := 1) rfl ?_);refine boxE (w := w) oL (cs := #[.int .i64 a0_0,.int .i64 a0_1,.int .i64 a0_2,.int .i64 a0_3,.int .i64 a0_4,.int .i64 a0_5,.int .i64 a0_6]) (t := 77) ?_;clear HB;intro gb101 w3 HB BK101 GW101;have GE101 := GW101));(try simp only [Act.put,List.setIfInBounds_toArray,List.set_cons_zero,List.set_cons_succ]);go_cut [43] (fun v43 wc => ∃ (kq : Nat) (x43_1 : Bool),v43 = .bool x43_1 ∧ Aside0 (spec_GoodIns.j0 kq x43_1 a0_0 a0_1 a0_2 a0_3 a0_4 a0_5 a0_6 = some r) ∧ Aside0 (kq ≤ k) ∧ Aside0 (wc.heap[gb101]? = some (.cells #[.int .i64 a0_0,.int .i64 a0_1,.int .i64 a0_2,.int .i64 a0_3,.int .i64 a0_4,.int .i64 a0_5,.int .i64 a0_6] 77 (0,0))) ∧ Aside0 (Below w.heap.size w wc))
 case first =>
  have H := HC2.out;clear HC2;obtain ⟨t102,A40,H⟩ := bE H;have A4 := aS A40;clear A40;by_cases c5 : t102 = true
  ·
   subst c5;replace H := iT H;obtain ⟨t103,A60,H⟩ := bE H;have A6 := aS A60;clear A60;by_cases c7 : t103 = true
   ·
    subst c7;replace H := iT H;obtain ⟨t104,A80,H⟩ := bE H;have A8 := aS A80;clear A80;by_cases c9 : t104 = true
    ·
     subst c9;replace H := iT H;obtain ⟨t105,A100,H⟩ := bE H;have A10 := aS A100;clear A100;by_cases c11 : t105 = true
     ·
      subst c11;replace H := iT H;by_cases c12 : a0_3 = 7
      ·
       rw [if_pos c12] at H;obtain ⟨c12b0,c12b1⟩ := eT c12;clear c12;(first | rw [c12b0] | (simp only [i64_w,i32_w];rw [c12b0]) | skip);by_cases c13 : a0_1 = 1
       ·
        rw [if_pos c13] at H;obtain ⟨c13b0,c13b1⟩ := eT c13;clear c13;have H' := aS H;clear H;obtain ⟨Z14_0,Z14_1,Z14_2,Z14_3,Z14_4,Z14_5,Z14_6⟩ := cz7 BK101.out;obtain ⟨Y14_0,Y14_1,Y14_2,Y14_3,Y14_4,Y14_5,Y14_6⟩ := fz7 BK101.out
        as_aux_lemma =>
         go_wp2_with (first | ((with_reducible refine gate_callee (f := 66) rfl ?_);refine goesQ (some 7) Try.func66 #[.int .i64 a0_1] (spec_l1Size.calls a0_1 true _ A4.out) fun nd => ?_) | (go_at_call 52;(with_reducible refine (spec_l1In.calls a0_2 0 3 true _ A6.out).mono ?_);rintro e w' ⟨rfl,⟨nd,rfl⟩⟩) | (go_at_call 101;(with_reducible refine (spec_GoodOperand.calls k a0_3 a0_4 a0_5 true _ A8.out).mono ?_);rintro e w15 ⟨rfl,hb⟩;have n0_ := aS (blk_below (oB BK101.out) hb);have n1_ := aS (below_step oL hb);clear BK101;clear HB;have BK101 := n0_;have HB := n1_;clear n0_ n1_;(try clear hb);(try clear hb2);(try clear hk);(try clear hi);obtain ⟨Z16_0,Z16_1,Z16_2,Z16_3,Z16_4,Z16_5,Z16_6⟩ := cz7 BK101.out;obtain ⟨Y16_0,Y16_1,Y16_2,Y16_3,Y16_4,Y16_5,Y16_6⟩ := fz7 BK101.out) | (go_at_call 52;(with_reducible refine (spec_l1In.calls a0_6 0 7 true _ A10.out).mono ?_);rintro e w' ⟨rfl,⟨nd,rfl⟩⟩));go_meet;case rel => exact ⟨_,(decide (a0_5 > 255)),oE,H',⟨by first | omega | exact Nat.le_refl _⟩,⟨oB BK101.out⟩,⟨oL⟩⟩
       ·
        rw [if_neg c13] at H;obtain ⟨c13b0,c13b1⟩ := eF c13;have H' := aS H;clear H;obtain ⟨Z17_0,Z17_1,Z17_2,Z17_3,Z17_4,Z17_5,Z17_6⟩ := cz7 BK101.out;obtain ⟨Y17_0,Y17_1,Y17_2,Y17_3,Y17_4,Y17_5,Y17_6⟩ := fz7 BK101.out
        as_aux_lemma =>
         go_wp2_with (first | ((with_reducible refine gate_callee (f := 66) rfl ?_);refine goesQ (some 7) Try.func66 #[.int .i64 a0_1] (spec_l1Size.calls a0_1 true _ A4.out) fun nd => ?_) | (go_at_call 52;(with_reducible refine (spec_l1In.calls a0_2 0 3 true _ A6.out).mono ?_);rintro e w' ⟨rfl,⟨nd,rfl⟩⟩) | (go_at_call 101;(with_reducible refine (spec_GoodOperand.calls k a0_3 a0_4 a0_5 true _ A8.out).mono ?_);rintro e w18 ⟨rfl,hb⟩;have n0_ := aS (blk_below (oB BK101.out) hb);have n1_ := aS (below_step oL hb);clear BK101;clear HB;have BK101 := n0_;have HB := n1_;clear n0_ n1_;(try clear hb);(try clear hb2);(try clear hk);(try clear hi);obtain ⟨Z19_0,Z19_1,Z19_2,Z19_3,Z19_4,Z19_5,Z19_6⟩ := cz7 BK101.out;obtain ⟨Y19_0,Y19_1,Y19_2,Y19_3,Y19_4,Y19_5,Y19_6⟩ := fz7 BK101.out) | (go_at_call 52;(with_reducible refine (spec_l1In.calls a0_6 0 7 true _ A10.out).mono ?_);rintro e w' ⟨rfl,⟨nd,rfl⟩⟩));go_meet;case rel => exact ⟨_,(false),oE,H',⟨by first | omega | exact Nat.le_refl _⟩,⟨oB BK101.out⟩,⟨oL⟩⟩
      ·
       rw [if_neg c12] at H;obtain ⟨c12b0,c12b1⟩ := eF c12;(first | rw [c12b0] | (simp only [i64_w,i32_w];rw [c12b0]) | skip);have H' := aS H;clear H;obtain ⟨Z20_0,Z20_1,Z20_2,Z20_3,Z20_4,Z20_5,Z20_6⟩ := cz7 BK101.out;obtain ⟨Y20_0,Y20_1,Y20_2,Y20_3,Y20_4,Y20_5,Y20_6⟩ := fz7 BK101.out
       as_aux_lemma =>
        go_wp2_with (first | ((with_reducible refine gate_callee (f := 66) rfl ?_);refine goesQ (some 7) Try.func66 #[.int .i64 a0_1] (spec_l1Size.calls a0_1 true _ A4.out) fun nd => ?_) | (go_at_call 52;(with_reducible refine (spec_l1In.calls a0_2 0 3 true _ A6.out).mono ?_);rintro e w' ⟨rfl,⟨nd,rfl⟩⟩) | (go_at_call 101;(with_reducible refine (spec_GoodOperand.calls k a0_3 a0_4 a0_5 true _ A8.out).mono ?_);rintro e w21 ⟨rfl,hb⟩;have n0_ := aS (blk_below (oB BK101.out) hb);have n1_ := aS (below_step oL hb);clear BK101;clear HB;have BK101 := n0_;have HB := n1_;clear n0_ n1_;(try clear hb);(try clear hb2);(try clear hk);(try clear hi);obtain ⟨Z22_0,Z22_1,Z22_2,Z22_3,Z22_4,Z22_5,Z22_6⟩ := cz7 BK101.out;obtain ⟨Y22_0,Y22_1,Y22_2,Y22_3,Y22_4,Y22_5,Y22_6⟩ := fz7 BK101.out) | (go_at_call 52;(with_reducible refine (spec_l1In.calls a0_6 0 7 true _ A10.out).mono ?_);rintro e w' ⟨rfl,⟨nd,rfl⟩⟩));go_meet;case rel => exact ⟨_,(false),oE,H',⟨by first | omega | exact Nat.le_refl _⟩,⟨oB BK101.out⟩,⟨oL⟩⟩
     ·
      replace c11 := Bool.eq_false_iff.mpr c11;subst c11;replace H := iF H;have H' := aS H;clear H;obtain ⟨Z23_0,Z23_1,Z23_2,Z23_3,Z23_4,Z23_5,Z23_6⟩ := cz7 BK101.out;obtain ⟨Y23_0,Y23_1,Y23_2,Y23_3,Y23_4,Y23_5,Y23_6⟩ := fz7 BK101.out
      as_aux_lemma =>
       go_wp2_with (first | ((with_reducible refine gate_callee (f := 66) rfl ?_);refine goesQ (some 7) Try.func66 #[.int .i64 a0_1] (spec_l1Size.calls a0_1 true _ A4.out) fun nd => ?_) | (go_at_call 52;(with_reducible refine (spec_l1In.calls a0_2 0 3 true _ A6.out).mono ?_);rintro e w' ⟨rfl,⟨nd,rfl⟩⟩) | (go_at_call 101;(with_reducible refine (spec_GoodOperand.calls k a0_3 a0_4 a0_5 true _ A8.out).mono ?_);rintro e w24 ⟨rfl,hb⟩;have n0_ := aS (blk_below (oB BK101.out) hb);have n1_ := aS (below_step oL hb);clear BK101;clear HB;have BK101 := n0_;have HB := n1_;clear n0_ n1_;(try clear hb);(try clear hb2);(try clear hk);(try clear hi);obtain ⟨Z25_0,Z25_1,Z25_2,Z25_3,Z25_4,Z25_5,Z25_6⟩ := cz7 BK101.out;obtain ⟨Y25_0,Y25_1,Y25_2,Y25_3,Y25_4,Y25_5,Y25_6⟩ := fz7 BK101.out) | (go_at_call 52;(with_reducible refine (spec_l1In.calls a0_6 0 7 false _ A10.out).mono ?_);rintro e w' ⟨rfl,⟨nd,rfl⟩⟩));go_meet;case rel => exact ⟨_,(true),oE,H',⟨by first | omega | exact Nat.le_refl _⟩,⟨oB BK101.out⟩,⟨oL⟩⟩
    ·
     replace c9 := Bool.eq_false_iff.mpr c9;subst c9;replace H := iF H;have H' := aS H;clear H;obtain ⟨Z26_0,Z26_1,Z26_2,Z26_3,Z26_4,Z26_5,Z26_6⟩ := cz7 BK101.out;obtain ⟨Y26_0,Y26_1,Y26_2,Y26_3,Y26_4,Y26_5,Y26_6⟩ := fz7 BK101.out
     as_aux_lemma =>
      go_wp2_with (first | ((with_reducible refine gate_callee (f := 66) rfl ?_);refine goesQ (some 7) Try.func66 #[.int .i64 a0_1] (spec_l1Size.calls a0_1 true _ A4.out) fun nd => ?_) | (go_at_call 52;(with_reducible refine (spec_l1In.calls a0_2 0 3 true _ A6.out).mono ?_);rintro e w' ⟨rfl,⟨nd,rfl⟩⟩) | (go_at_call 101;(with_reducible refine (spec_GoodOperand.calls k a0_3 a0_4 a0_5 false _ A8.out).mono ?_);rintro e w27 ⟨rfl,hb⟩;have n0_ := aS (blk_below (oB BK101.out) hb);have n1_ := aS (below_step oL hb);clear BK101;clear HB;have BK101 := n0_;have HB := n1_;clear n0_ n1_;(try clear hb);(try clear hb2);(try clear hk);(try clear hi)));go_meet;case rel => exact ⟨_,(true),oE,H',⟨by first | omega | exact Nat.le_refl _⟩,⟨oB BK101.out⟩,⟨oL⟩⟩
   ·
    replace c7 := Bool.eq_false_iff.mpr c7;subst c7;replace H := iF H;have H' := aS H;clear H;obtain ⟨Z28_0,Z28_1,Z28_2,Z28_3,Z28_4,Z28_5,Z28_6⟩ := cz7 BK101.out;obtain ⟨Y28_0,Y28_1,Y28_2,Y28_3,Y28_4,Y28_5,Y28_6⟩ := fz7 BK101.out
    as_aux_lemma =>
     go_wp2_with (first | ((with_reducible refine gate_callee (f := 66) rfl ?_);refine goesQ (some 7) Try.func66 #[.int .i64 a0_1] (spec_l1Size.calls a0_1 true _ A4.out) fun nd => ?_) | (go_at_call 52;(with_reducible refine (spec_l1In.calls a0_2 0 3 false _ A6.out).mono ?_);rintro e w' ⟨rfl,⟨nd,rfl⟩⟩));go_meet;case rel => exact ⟨_,(true),oE,H',⟨by first | omega | exact Nat.le_refl _⟩,⟨oB BK101.out⟩,⟨oL⟩⟩
  ·
   replace c5 := Bool.eq_false_iff.mpr c5;subst c5;replace H := iF H;have H' := aS H;clear H;obtain ⟨Z29_0,Z29_1,Z29_2,Z29_3,Z29_4,Z29_5,Z29_6⟩ := cz7 BK101.out;obtain ⟨Y29_0,Y29_1,Y29_2,Y29_3,Y29_4,Y29_5,Y29_6⟩ := fz7 BK101.out
   as_aux_lemma =>
    go_wp2_with (first | ((with_reducible refine gate_callee (f := 66) rfl ?_);refine goesQ (some 7) Try.func66 #[.int .i64 a0_1] (spec_l1Size.calls a0_1 false _ A4.out) fun nd => ?_));go_meet;case rel => exact ⟨_,(true),oE,H',⟨by first | omega | exact Nat.le_refl _⟩,⟨oB BK101.out⟩,⟨oL⟩⟩
 case rest =>
  as_aux_lemma =>
   clear HC2;(try clear c1);(try clear p2);(try clear c5);(try clear c6);(try clear c7);(try clear c9);(try clear c11);(try clear c12);(try clear c12b0);(try clear c12b1);(try clear c13);(try clear c13b0);(try clear c13b1);(try clear Z14_0 Z14_1 Z14_2 Z14_3 Z14_4 Z14_5 Z14_6);(try clear Z16_0 Z16_1 Z16_2 Z16_3 Z16_4 Z16_5 Z16_6);(try clear Z17_0 Z17_1 Z17_2 Z17_3 Z17_4 Z17_5 Z17_6);(try clear Z19_0 Z19_1 Z19_2 Z19_3 Z19_4 Z19_5 Z19_6);(try clear Z20_0 Z20_1 Z20_2 Z20_3 Z20_4 Z20_5 Z20_6);(try clear Z22_0 Z22_1 Z22_2 Z22_3 Z22_4 Z22_5 Z22_6);(try clear Z23_0 Z23_1 Z23_2 Z23_3 Z23_4 Z23_5 Z23_6);(try clear Z25_0 Z25_1 Z25_2 Z25_3 Z25_4 Z25_5 Z25_6);(try clear Z26_0 Z26_1 Z26_2 Z26_3 Z26_4 Z26_5 Z26_6);(try clear Z28_0 Z28_1 Z28_2 Z28_3 Z28_4 Z28_5 Z28_6);(try clear Z29_0 Z29_1 Z29_2 Z29_3 Z29_4 Z29_5 Z29_6);(try clear Y14_0 Y14_1 Y14_2 Y14_3 Y14_4 Y14_5 Y14_6);(try clear Y16_0 Y16_1 Y16_2 Y16_3 Y16_4 Y16_5 Y16_6);(try clear Y17_0 Y17_1 Y17_2 Y17_3 Y17_4 Y17_5 Y17_6);(try clear Y19_0 Y19_1 Y19_2 Y19_3 Y19_4 Y19_5 Y19_6);(try clear Y20_0 Y20_1 Y20_2 Y20_3 Y20_4 Y20_5 Y20_6);(try clear Y22_0 Y22_1 Y22_2 Y22_3 Y22_4 Y22_5 Y22_6);(try clear Y23_0 Y23_1 Y23_2 Y23_3 Y23_4 Y23_5 Y23_6);(try clear Y25_0 Y25_1 Y25_2 Y25_3 Y25_4 Y25_5 Y25_6);(try clear Y26_0 Y26_1 Y26_2 Y26_3 Y26_4 Y26_5 Y26_6);(try clear Y28_0 Y28_1 Y28_2 Y28_3 Y28_4 Y28_5 Y28_6);(try clear Y29_0 Y29_1 Y29_2 Y29_3 Y29_4 Y29_5 Y29_6);obtain ⟨kq,x43_1,rfl,HA,HJ1,BK101,HB⟩ := hcut;cases kq with
   | zero => exact absurd HA.out (by simp [spec_GoodIns.j0])
   | succ kj1 =>
    have H := HA.out;clear HA;simp only [spec_GoodIns.j0] at H;by_cases c30 : x43_1 = true
    ·
     subst c30;replace H := iT H;obtain rfl := Option.some.inj H
     as_aux_lemma =>
      go_wp2;go_ret;exact ⟨oE,oL⟩
    ·
     replace c30 := Bool.eq_false_iff.mpr c30;subst c30;replace H := iF H;have HC31 := aS H;clear H;obtain ⟨Z32_0,Z32_1,Z32_2,Z32_3,Z32_4,Z32_5,Z32_6⟩ := cz7 BK101.out;obtain ⟨Y32_0,Y32_1,Y32_2,Y32_3,Y32_4,Y32_5,Y32_6⟩ := fz7 BK101.out;go_upto_if 52 with (fail);go_cut [52] (fun v52 wc => ∃ (kq : Nat) (x52_30 : Bool),v52 = .bool x52_30 ∧ Aside0 (spec_GoodIns.j1 kq (a0_1 == 2) a0_3 a0_0 x52_30 a0_0 a0_1 a0_2 a0_3 a0_4 a0_5 a0_6 = some r) ∧ Aside0 (kq ≤ kj1) ∧ Aside0 (wc.heap[gb101]? = some (.cells #[.int .i64 a0_0,.int .i64 a0_1,.int .i64 a0_2,.int .i64 a0_3,.int .i64 a0_4,.int .i64 a0_5,.int .i64 a0_6] 77 (0,0))) ∧ Aside0 (Below w.heap.size w wc))
     case first =>
      have H := HC31.out;clear HC31;by_cases c33 : a0_0 = 1
      ·
       rw [if_pos c33] at H;obtain ⟨c33b0,c33b1⟩ := eT c33;clear c33;(first | rw [c33b0] | (simp only [i64_w,i32_w];rw [c33b0]) | skip);have H' := aS H;clear H
       as_aux_lemma =>
        go_wp2;go_meet;case rel => exact ⟨_,((a0_0 == 1)),oE,H',⟨by have := HJ1.out;first | omega | exact Nat.le_refl _⟩,⟨oB BK101.out⟩,⟨oL⟩⟩
      ·
       rw [if_neg c33] at H;obtain ⟨c33b0,c33b1⟩ := eF c33;(first | rw [c33b0] | (simp only [i64_w,i32_w];rw [c33b0]) | skip);by_cases c34 : a0_0 = 3
       ·
        rw [if_pos c34] at H;obtain ⟨c34b0,c34b1⟩ := eT c34;clear c34;have H' := aS H;clear H
        as_aux_lemma =>
         go_wp2;go_meet;case rel => exact ⟨_,((a0_0 == 3)),oE,H',⟨by have := HJ1.out;first | omega | exact Nat.le_refl _⟩,⟨oB BK101.out⟩,⟨oL⟩⟩
       ·
        rw [if_neg c34] at H;obtain ⟨c34b0,c34b1⟩ := eF c34;by_cases c35 : a0_0 = 4
        ·
         rw [if_pos c35] at H;obtain ⟨c35b0,c35b1⟩ := eT c35;clear c35;have H' := aS H;clear H
         as_aux_lemma =>
          go_wp2;go_meet;case rel => exact ⟨_,((a0_0 == 4)),oE,H',⟨by have := HJ1.out;first | omega | exact Nat.le_refl _⟩,⟨oB BK101.out⟩,⟨oL⟩⟩
        ·
         rw [if_neg c35] at H;obtain ⟨c35b0,c35b1⟩ := eF c35;by_cases c36 : a0_0 = 5
         ·
          rw [if_pos c36] at H;obtain ⟨c36b0,c36b1⟩ := eT c36;clear c36;have H' := aS H;clear H
          as_aux_lemma =>
           go_wp2;go_meet;case rel => exact ⟨_,((a0_0 == 5)),oE,H',⟨by have := HJ1.out;first | omega | exact Nat.le_refl _⟩,⟨oB BK101.out⟩,⟨oL⟩⟩
         ·
          rw [if_neg c36] at H;obtain ⟨c36b0,c36b1⟩ := eF c36;by_cases c37 : a0_0 = 6
          ·
           rw [if_pos c37] at H;obtain ⟨c37b0,c37b1⟩ := eT c37;clear c37;have H' := aS H;clear H
           as_aux_lemma =>
            go_wp2;go_meet;case rel => exact ⟨_,((a0_0 == 6)),oE,H',⟨by have := HJ1.out;first | omega | exact Nat.le_refl _⟩,⟨oB BK101.out⟩,⟨oL⟩⟩
          ·
           rw [if_neg c37] at H;obtain ⟨c37b0,c37b1⟩ := eF c37;by_cases c38 : a0_0 = 7
           ·
            rw [if_pos c38] at H;obtain ⟨c38b0,c38b1⟩ := eT c38;clear c38;have H' := aS H;clear H
            as_aux_lemma =>
             go_wp2;go_meet;case rel => exact ⟨_,((a0_0 == 7)),oE,H',⟨by have := HJ1.out;first | omega | exact Nat.le_refl _⟩,⟨oB BK101.out⟩,⟨oL⟩⟩
           ·
            rw [if_neg c38] at H;obtain ⟨c38b0,c38b1⟩ := eF c38;have H' := aS H;clear H
            as_aux_lemma =>
             go_wp2;go_meet;case rel => exact ⟨_,((a0_0 == 8)),oE,H',⟨by have := HJ1.out;first | omega | exact Nat.le_refl _⟩,⟨oB BK101.out⟩,⟨oL⟩⟩
     case rest =>
      as_aux_lemma =>
       clear HC31;(try clear c1);(try clear p2);(try clear c3);(try clear c5);(try clear c6);(try clear c7);(try clear c9);(try clear c11);(try clear c12);(try clear c12b0);(try clear c12b1);(try clear c13);(try clear c13b0);(try clear c13b1);(try clear c30);(try clear c33);(try clear c33b0);(try clear c33b1);(try clear c34);(try clear c34b0);(try clear c34b1);(try clear c35);(try clear c35b0);(try clear c35b1);(try clear c36);(try clear c36b0);(try clear c36b1);(try clear c37);(try clear c37b0);(try clear c37b1);(try clear c38);(try clear c38b0);(try clear c38b1);(try clear Z14_0 Z14_1 Z14_2 Z14_3 Z14_4 Z14_5 Z14_6);(try clear Z16_0 Z16_1 Z16_2 Z16_3 Z16_4 Z16_5 Z16_6);(try clear Z17_0 Z17_1 Z17_2 Z17_3 Z17_4 Z17_5 Z17_6);(try clear Z19_0 Z19_1 Z19_2 Z19_3 Z19_4 Z19_5 Z19_6);(try clear Z20_0 Z20_1 Z20_2 Z20_3 Z20_4 Z20_5 Z20_6);(try clear Z22_0 Z22_1 Z22_2 Z22_3 Z22_4 Z22_5 Z22_6);(try clear Z23_0 Z23_1 Z23_2 Z23_3 Z23_4 Z23_5 Z23_6);(try clear Z25_0 Z25_1 Z25_2 Z25_3 Z25_4 Z25_5 Z25_6);(try clear Z26_0 Z26_1 Z26_2 Z26_3 Z26_4 Z26_5 Z26_6);(try clear Z28_0 Z28_1 Z28_2 Z28_3 Z28_4 Z28_5 Z28_6);(try clear Z29_0 Z29_1 Z29_2 Z29_3 Z29_4 Z29_5 Z29_6);(try clear Z32_0 Z32_1 Z32_2 Z32_3 Z32_4 Z32_5 Z32_6);(try clear Y14_0 Y14_1 Y14_2 Y14_3 Y14_4 Y14_5 Y14_6);(try clear Y16_0 Y16_1 Y16_2 Y16_3 Y16_4 Y16_5 Y16_6);(try clear Y17_0 Y17_1 Y17_2 Y17_3 Y17_4 Y17_5 Y17_6);(try clear Y19_0 Y19_1 Y19_2 Y19_3 Y19_4 Y19_5 Y19_6);(try clear Y20_0 Y20_1 Y20_2 Y20_3 Y20_4 Y20_5 Y20_6);(try clear Y22_0 Y22_1 Y22_2 Y22_3 Y22_4 Y22_5 Y22_6);(try clear Y23_0 Y23_1 Y23_2 Y23_3 Y23_4 Y23_5 Y23_6);(try clear Y25_0 Y25_1 Y25_2 Y25_3 Y25_4 Y25_5 Y25_6);(try clear Y26_0 Y26_1 Y26_2 Y26_3 Y26_4 Y26_5 Y26_6);(try clear Y28_0 Y28_1 Y28_2 Y28_3 Y28_4 Y28_5 Y28_6);(try clear Y29_0 Y29_1 Y29_2 Y29_3 Y29_4 Y29_5 Y29_6);(try clear Y32_0 Y32_1 Y32_2 Y32_3 Y32_4 Y32_5 Y32_6);(try clear p2);obtain ⟨kq,x52_30,rfl,HA,HJ30,BK101,HB⟩ := hcut;cases kq with
       | zero => exact absurd HA.out (by simp [spec_GoodIns.j1])
       | succ kj30 =>
        have H := HA.out;clear HA;simp only [spec_GoodIns.j1] at H;by_cases c39 : x52_30 = true
        ·
         subst c39;replace H := iT H;by_cases c40 : a0_6 = 0
         ·
          rw [if_pos c40] at H;obtain ⟨c40b0,c40b1⟩ := eT c40;clear c40;by_cases c41 : (a0_1 == 2) = true
          ·
           rw [if_pos c41] at H;have c41b0 : (a0_1 == 2) = true := c41;(try (have c41b1 : decide (a0_1 = 2) = true := by simpa using c41));(try (have c41b2 : (a0_1 == 2) = true := by simpa using c41));clear c41;obtain rfl := Option.some.inj H;obtain ⟨Z42_0,Z42_1,Z42_2,Z42_3,Z42_4,Z42_5,Z42_6⟩ := cz7 BK101.out;obtain ⟨Y42_0,Y42_1,Y42_2,Y42_3,Y42_4,Y42_5,Y42_6⟩ := fz7 BK101.out
           as_aux_lemma =>
            go_wp2;go_ret;exact ⟨oE,oL⟩
          ·
           rw [if_neg c41] at H;have c41b0 : (a0_1 == 2) = false := by simpa using c41
           (try (have c41b1 : decide (a0_1 = 2) = false := by simpa using c41));(try (have c41b2 : (a0_1 == 2) = false := by simpa using c41));(try (have c41b3 : ¬ (a0_1 = 2) := by simpa using c41));clear c41;obtain rfl := Option.some.inj H;obtain ⟨Z43_0,Z43_1,Z43_2,Z43_3,Z43_4,Z43_5,Z43_6⟩ := cz7 BK101.out;obtain ⟨Y43_0,Y43_1,Y43_2,Y43_3,Y43_4,Y43_5,Y43_6⟩ := fz7 BK101.out
           as_aux_lemma =>
            go_wp2;go_ret;exact ⟨oE,oL⟩
         ·
          rw [if_neg c40] at H;obtain ⟨c40b0,c40b1⟩ := eF c40;obtain rfl := Option.some.inj H;obtain ⟨Z44_0,Z44_1,Z44_2,Z44_3,Z44_4,Z44_5,Z44_6⟩ := cz7 BK101.out;obtain ⟨Y44_0,Y44_1,Y44_2,Y44_3,Y44_4,Y44_5,Y44_6⟩ := fz7 BK101.out
          as_aux_lemma =>
           go_wp2;go_ret;exact ⟨oE,oL⟩
        ·
         replace c39 := Bool.eq_false_iff.mpr c39;subst c39;replace H := iF H;by_cases c45 : a0_0 = 2
         ·
          rw [if_pos c45] at H;obtain ⟨c45b0,c45b1⟩ := eT c45;clear c45;by_cases c46 : a0_6 = 0
          ·
           rw [if_pos c46] at H;obtain ⟨c46b0,c46b1⟩ := eT c46;clear c46;by_cases c47 : a0_3 = 0
           ·
            rw [if_pos c47] at H;obtain ⟨c47b0,c47b1⟩ := eT c47;clear c47;obtain rfl := Option.some.inj H;obtain ⟨Z48_0,Z48_1,Z48_2,Z48_3,Z48_4,Z48_5,Z48_6⟩ := cz7 BK101.out;obtain ⟨Y48_0,Y48_1,Y48_2,Y48_3,Y48_4,Y48_5,Y48_6⟩ := fz7 BK101.out
            as_aux_lemma =>
             go_wp2;go_ret;exact ⟨oE,oL⟩
           ·
            rw [if_neg c47] at H;obtain ⟨c47b0,c47b1⟩ := eF c47;obtain ⟨t106,A490,H⟩ := bE H;have A49 := aS A490;clear A490;obtain rfl := Option.some.inj H;obtain ⟨Z50_0,Z50_1,Z50_2,Z50_3,Z50_4,Z50_5,Z50_6⟩ := cz7 BK101.out;obtain ⟨Y50_0,Y50_1,Y50_2,Y50_3,Y50_4,Y50_5,Y50_6⟩ := fz7 BK101.out
            as_aux_lemma =>
             go_wp2_with (first | (go_at_call 102;(with_reducible refine (spec_l7Memory.calls a0_3 t106 _ A49.out).mono ?_);rintro e w' ⟨rfl,⟨nd,rfl⟩⟩));go_ret;exact ⟨oE,oL⟩
          ·
           rw [if_neg c46] at H;obtain ⟨c46b0,c46b1⟩ := eF c46;obtain rfl := Option.some.inj H;obtain ⟨Z51_0,Z51_1,Z51_2,Z51_3,Z51_4,Z51_5,Z51_6⟩ := cz7 BK101.out;obtain ⟨Y51_0,Y51_1,Y51_2,Y51_3,Y51_4,Y51_5,Y51_6⟩ := fz7 BK101.out
           as_aux_lemma =>
            go_wp2;go_ret;exact ⟨oE,oL⟩
         ·
          rw [if_neg c45] at H;obtain ⟨c45b0,c45b1⟩ := eF c45;by_cases c52 : a0_0 = 9
          ·
           rw [if_pos c52] at H;obtain ⟨c52b0,c52b1⟩ := eT c52;clear c52;by_cases c53 : (a0_1 == 2) = true
           ·
            rw [if_pos c53] at H;have c53b0 : (a0_1 == 2) = true := c53;(try (have c53b1 : decide (a0_1 = 2) = true := by simpa using c53));(try (have c53b2 : (a0_1 == 2) = true := by simpa using c53));clear c53;obtain rfl := Option.some.inj H;obtain ⟨Z54_0,Z54_1,Z54_2,Z54_3,Z54_4,Z54_5,Z54_6⟩ := cz7 BK101.out;obtain ⟨Y54_0,Y54_1,Y54_2,Y54_3,Y54_4,Y54_5,Y54_6⟩ := fz7 BK101.out
            as_aux_lemma =>
             go_wp2;go_ret;exact ⟨oE,oL⟩
           ·
            rw [if_neg c53] at H;have c53b0 : (a0_1 == 2) = false := by simpa using c53
            (try (have c53b1 : decide (a0_1 = 2) = false := by simpa using c53));(try (have c53b2 : (a0_1 == 2) = false := by simpa using c53));(try (have c53b3 : ¬ (a0_1 = 2) := by simpa using c53));clear c53;obtain rfl := Option.some.inj H
            as_aux_lemma =>
             go_wp2;go_ret;exact ⟨oE,oL⟩
          ·
           rw [if_neg c52] at H;obtain ⟨c52b0,c52b1⟩ := eF c52;by_cases c55 : a0_0 = 10
           ·
            rw [if_pos c55] at H;obtain ⟨c55b0,c55b1⟩ := eT c55;clear c55;by_cases c56 : (a0_1 == 2) = true
            ·
             rw [if_pos c56] at H;have c56b0 : (a0_1 == 2) = true := c56;(try (have c56b1 : decide (a0_1 = 2) = true := by simpa using c56));(try (have c56b2 : (a0_1 == 2) = true := by simpa using c56));clear c56;by_cases c57 : a0_6 = 0
             ·
              rw [if_pos c57] at H;obtain ⟨c57b0,c57b1⟩ := eT c57;clear c57;obtain ⟨t107,A580,H⟩ := bE H;have A58 := aS A580;clear A580;obtain rfl := Option.some.inj H;obtain ⟨Z59_0,Z59_1,Z59_2,Z59_3,Z59_4,Z59_5,Z59_6⟩ := cz7 BK101.out;obtain ⟨Y59_0,Y59_1,Y59_2,Y59_3,Y59_4,Y59_5,Y59_6⟩ := fz7 BK101.out
              as_aux_lemma =>
               go_wp2_with (first | (go_at_call 103;(with_reducible refine (spec_l7Plain.calls a0_3 t107 _ A58.out).mono ?_);rintro e w' ⟨rfl,⟨nd,rfl⟩⟩));go_ret;exact ⟨oE,oL⟩
             ·
              rw [if_neg c57] at H;obtain ⟨c57b0,c57b1⟩ := eF c57;obtain rfl := Option.some.inj H;obtain ⟨Z60_0,Z60_1,Z60_2,Z60_3,Z60_4,Z60_5,Z60_6⟩ := cz7 BK101.out;obtain ⟨Y60_0,Y60_1,Y60_2,Y60_3,Y60_4,Y60_5,Y60_6⟩ := fz7 BK101.out
              as_aux_lemma =>
               go_wp2;go_ret;exact ⟨oE,oL⟩
            ·
             rw [if_neg c56] at H;have c56b0 : (a0_1 == 2) = false := by simpa using c56
             (try (have c56b1 : decide (a0_1 = 2) = false := by simpa using c56));(try (have c56b2 : (a0_1 == 2) = false := by simpa using c56));(try (have c56b3 : ¬ (a0_1 = 2) := by simpa using c56));clear c56;obtain rfl := Option.some.inj H
             as_aux_lemma =>
              go_wp2;go_ret;exact ⟨oE,oL⟩
           ·
            rw [if_neg c55] at H;obtain ⟨c55b0,c55b1⟩ := eF c55;by_cases c61 : a0_0 = 11
            ·
             rw [if_pos c61] at H;obtain ⟨c61b0,c61b1⟩ := eT c61;clear c61;by_cases c62 : a0_2 = 0
             ·
              rw [if_pos c62] at H;obtain ⟨c62b0,c62b1⟩ := eT c62;clear c62;by_cases c63 : a0_6 ≤ 3
              ·
               rw [if_pos c63] at H;have c63b0 : decide (a0_6 ≤ 3) = true := decide_eq_true c63;clear c63;by_cases c64 : a0_3 = 0
               ·
                rw [if_pos c64] at H;obtain ⟨c64b0,c64b1⟩ := eT c64;clear c64;obtain rfl := Option.some.inj H;obtain ⟨Z65_0,Z65_1,Z65_2,Z65_3,Z65_4,Z65_5,Z65_6⟩ := cz7 BK101.out;obtain ⟨Y65_0,Y65_1,Y65_2,Y65_3,Y65_4,Y65_5,Y65_6⟩ := fz7 BK101.out
                as_aux_lemma =>
                 go_wp2;go_ret;exact ⟨oE,oL⟩
               ·
                rw [if_neg c64] at H;obtain ⟨c64b0,c64b1⟩ := eF c64;obtain ⟨t108,A660,H⟩ := bE H;have A66 := aS A660;clear A660;obtain rfl := Option.some.inj H;obtain ⟨Z67_0,Z67_1,Z67_2,Z67_3,Z67_4,Z67_5,Z67_6⟩ := cz7 BK101.out;obtain ⟨Y67_0,Y67_1,Y67_2,Y67_3,Y67_4,Y67_5,Y67_6⟩ := fz7 BK101.out
                as_aux_lemma =>
                 go_wp2_with (first | (go_at_call 102;(with_reducible refine (spec_l7Memory.calls a0_3 t108 _ A66.out).mono ?_);rintro e w' ⟨rfl,⟨nd,rfl⟩⟩));go_ret;exact ⟨oE,oL⟩
              ·
               rw [if_neg c63] at H;have c63b0 : decide (a0_6 ≤ 3) = false := decide_eq_false c63;clear c63;obtain rfl := Option.some.inj H;obtain ⟨Z68_0,Z68_1,Z68_2,Z68_3,Z68_4,Z68_5,Z68_6⟩ := cz7 BK101.out;obtain ⟨Y68_0,Y68_1,Y68_2,Y68_3,Y68_4,Y68_5,Y68_6⟩ := fz7 BK101.out
               as_aux_lemma =>
                go_wp2;go_ret;exact ⟨oE,oL⟩
             ·
              rw [if_neg c62] at H;obtain ⟨c62b0,c62b1⟩ := eF c62;obtain rfl := Option.some.inj H;obtain ⟨Z69_0,Z69_1,Z69_2,Z69_3,Z69_4,Z69_5,Z69_6⟩ := cz7 BK101.out;obtain ⟨Y69_0,Y69_1,Y69_2,Y69_3,Y69_4,Y69_5,Y69_6⟩ := fz7 BK101.out
              as_aux_lemma =>
               go_wp2;go_ret;exact ⟨oE,oL⟩
            ·
             rw [if_neg c61] at H;obtain ⟨c61b0,c61b1⟩ := eF c61;by_cases c70 : a0_0 = 12
             ·
              rw [if_pos c70] at H;obtain ⟨c70b0,c70b1⟩ := eT c70;clear c70;obtain rfl := Option.some.inj H
              as_aux_lemma =>
               go_wp2;go_ret;exact ⟨oE,oL⟩
             ·
              rw [if_neg c70] at H;obtain ⟨c70b0,c70b1⟩ := eF c70;by_cases c71 : a0_0 = 13
              ·
               rw [if_pos c71] at H;obtain ⟨c71b0,c71b1⟩ := eT c71;clear c71;by_cases c72 : (a0_1 == 2) = true
               ·
                rw [if_pos c72] at H;have c72b0 : (a0_1 == 2) = true := c72;(try (have c72b1 : decide (a0_1 = 2) = true := by simpa using c72));(try (have c72b2 : (a0_1 == 2) = true := by simpa using c72));clear c72;by_cases c73 : a0_2 ≤ 1
                ·
                 rw [if_pos c73] at H;have c73b0 : decide (a0_2 ≤ 1) = true := decide_eq_true c73;clear c73;obtain rfl := Option.some.inj H;obtain ⟨Z74_0,Z74_1,Z74_2,Z74_3,Z74_4,Z74_5,Z74_6⟩ := cz7 BK101.out;obtain ⟨Y74_0,Y74_1,Y74_2,Y74_3,Y74_4,Y74_5,Y74_6⟩ := fz7 BK101.out
                 as_aux_lemma =>
                  go_wp2;go_ret;exact ⟨oE,oL⟩
                ·
                 rw [if_neg c73] at H;have c73b0 : decide (a0_2 ≤ 1) = false := decide_eq_false c73;clear c73;obtain rfl := Option.some.inj H;obtain ⟨Z75_0,Z75_1,Z75_2,Z75_3,Z75_4,Z75_5,Z75_6⟩ := cz7 BK101.out;obtain ⟨Y75_0,Y75_1,Y75_2,Y75_3,Y75_4,Y75_5,Y75_6⟩ := fz7 BK101.out
                 as_aux_lemma =>
                  go_wp2;go_ret;exact ⟨oE,oL⟩
               ·
                rw [if_neg c72] at H;have c72b0 : (a0_1 == 2) = false := by simpa using c72
                (try (have c72b1 : decide (a0_1 = 2) = false := by simpa using c72));(try (have c72b2 : (a0_1 == 2) = false := by simpa using c72));(try (have c72b3 : ¬ (a0_1 = 2) := by simpa using c72));clear c72;obtain rfl := Option.some.inj H
                as_aux_lemma =>
                 go_wp2;go_ret;exact ⟨oE,oL⟩
              ·
               rw [if_neg c71] at H;obtain ⟨c71b0,c71b1⟩ := eF c71;by_cases c76 : a0_0 = 14
               ·
                rw [if_pos c76] at H;obtain ⟨c76b0,c76b1⟩ := eT c76;clear c76;by_cases c77 : (a0_1 == 2) = true
                ·
                 rw [if_pos c77] at H;have c77b0 : (a0_1 == 2) = true := c77;(try (have c77b1 : decide (a0_1 = 2) = true := by simpa using c77));(try (have c77b2 : (a0_1 == 2) = true := by simpa using c77));clear c77;by_cases c78 : a0_2 = 0
                 ·
                  rw [if_pos c78] at H;obtain ⟨c78b0,c78b1⟩ := eT c78;clear c78;by_cases c79 : a0_6 ≤ 1
                  ·
                   rw [if_pos c79] at H;have c79b0 : decide (a0_6 ≤ 1) = true := decide_eq_true c79;clear c79;obtain ⟨t109,A800,H⟩ := bE H;have A80 := aS A800;clear A800;obtain rfl := Option.some.inj H;obtain ⟨Z81_0,Z81_1,Z81_2,Z81_3,Z81_4,Z81_5,Z81_6⟩ := cz7 BK101.out;obtain ⟨Y81_0,Y81_1,Y81_2,Y81_3,Y81_4,Y81_5,Y81_6⟩ := fz7 BK101.out
                   as_aux_lemma =>
                    go_wp2_with (first | (go_at_call 103;(with_reducible refine (spec_l7Plain.calls a0_3 t109 _ A80.out).mono ?_);rintro e w' ⟨rfl,⟨nd,rfl⟩⟩));go_ret;exact ⟨oE,oL⟩
                  ·
                   rw [if_neg c79] at H;have c79b0 : decide (a0_6 ≤ 1) = false := decide_eq_false c79;clear c79;obtain rfl := Option.some.inj H;obtain ⟨Z82_0,Z82_1,Z82_2,Z82_3,Z82_4,Z82_5,Z82_6⟩ := cz7 BK101.out;obtain ⟨Y82_0,Y82_1,Y82_2,Y82_3,Y82_4,Y82_5,Y82_6⟩ := fz7 BK101.out
                   as_aux_lemma =>
                    go_wp2;go_ret;exact ⟨oE,oL⟩
                 ·
                  rw [if_neg c78] at H;obtain ⟨c78b0,c78b1⟩ := eF c78;obtain rfl := Option.some.inj H;obtain ⟨Z83_0,Z83_1,Z83_2,Z83_3,Z83_4,Z83_5,Z83_6⟩ := cz7 BK101.out;obtain ⟨Y83_0,Y83_1,Y83_2,Y83_3,Y83_4,Y83_5,Y83_6⟩ := fz7 BK101.out
                  as_aux_lemma =>
                   go_wp2;go_ret;exact ⟨oE,oL⟩
                ·
                 rw [if_neg c77] at H;have c77b0 : (a0_1 == 2) = false := by simpa using c77
                 (try (have c77b1 : decide (a0_1 = 2) = false := by simpa using c77));(try (have c77b2 : (a0_1 == 2) = false := by simpa using c77));(try (have c77b3 : ¬ (a0_1 = 2) := by simpa using c77));clear c77;obtain rfl := Option.some.inj H
                 as_aux_lemma =>
                  go_wp2;go_ret;exact ⟨oE,oL⟩
               ·
                rw [if_neg c76] at H;obtain ⟨c76b0,c76b1⟩ := eF c76;have HC84 := aS H;clear H;go_upto_if 154 with (fail);go_cut [154] (fun v154 wc => ∃ (kq : Nat) (x154_83 : Bool),v154 = .bool x154_83 ∧ Aside0 (spec_GoodIns.j2 kq (a0_1 == 2) a0_3 a0_0 x154_83 a0_0 a0_1 a0_2 a0_3 a0_4 a0_5 a0_6 = some r) ∧ Aside0 (kq ≤ kj30) ∧ Aside0 (wc.heap[gb101]? = some (.cells #[.int .i64 a0_0,.int .i64 a0_1,.int .i64 a0_2,.int .i64 a0_3,.int .i64 a0_4,.int .i64 a0_5,.int .i64 a0_6] 77 (0,0))) ∧ Aside0 (Below w.heap.size w wc))
                case first =>
                 have H := HC84.out;clear HC84;by_cases c85 : a0_0 = 16
                 ·
                  rw [if_pos c85] at H;obtain ⟨c85b0,c85b1⟩ := eT c85;clear c85;(first | rw [c85b0] | (simp only [i64_w,i32_w];rw [c85b0]) | skip);have H' := aS H;clear H
                  as_aux_lemma =>
                   go_wp2;go_meet;case rel => exact ⟨_,((a0_0 == 16)),oE,H',⟨by have := HJ1.out;have := HJ30.out;first | omega | exact Nat.le_refl _⟩,⟨oB BK101.out⟩,⟨oL⟩⟩
                 ·
                  rw [if_neg c85] at H;obtain ⟨c85b0,c85b1⟩ := eF c85;(first | rw [c85b0] | (simp only [i64_w,i32_w];rw [c85b0]) | skip);have H' := aS H;clear H
                  as_aux_lemma =>
                   go_wp2;go_meet;case rel => exact ⟨_,((a0_0 == 17)),oE,H',⟨by have := HJ1.out;have := HJ30.out;first | omega | exact Nat.le_refl _⟩,⟨oB BK101.out⟩,⟨oL⟩⟩
                case rest =>
                 as_aux_lemma =>
                  clear HC84;(try clear p2);(try clear c3);(try clear c4);(try clear c5);(try clear c6);(try clear c7);(try clear c8);(try clear c39);(try clear c40);(try clear c40b0);(try clear c40b1);(try clear c41);(try clear c41b0);(try clear c41b1);(try clear c41b2);(try clear c45);(try clear c45b0);(try clear c45b1);(try clear c46);(try clear c46b0);(try clear c46b1);(try clear c47);(try clear c47b0);(try clear c47b1);(try clear c52);(try clear c52b0);(try clear c52b1);(try clear c53);(try clear c53b0);(try clear c53b1);(try clear c53b2);(try clear c55);(try clear c55b0);(try clear c55b1);(try clear c56);(try clear c56b0);(try clear c56b1);(try clear c56b2);(try clear c57);(try clear c57b0);(try clear c57b1);(try clear c61);(try clear c61b0);(try clear c61b1);(try clear c62);(try clear c62b0);(try clear c62b1);(try clear c63);(try clear c63b0);(try clear c64);(try clear c64b0);(try clear c64b1);(try clear c70);(try clear c70b0);(try clear c70b1);(try clear c71);(try clear c71b0);(try clear c71b1);(try clear c72);(try clear c72b0);(try clear c72b1);(try clear c72b2);(try clear c73);(try clear c73b0);(try clear c76);(try clear c76b0);(try clear c76b1);(try clear c77);(try clear c77b0);(try clear c77b1);(try clear c77b2);(try clear c78);(try clear c78b0);(try clear c78b1);(try clear c79);(try clear c79b0);(try clear c85);(try clear c85b0);(try clear c85b1);(try clear Z42_0 Z42_1 Z42_2 Z42_3 Z42_4 Z42_5 Z42_6);(try clear Z43_0 Z43_1 Z43_2 Z43_3 Z43_4 Z43_5 Z43_6);(try clear Z44_0 Z44_1 Z44_2 Z44_3 Z44_4 Z44_5 Z44_6);(try clear Z48_0 Z48_1 Z48_2 Z48_3 Z48_4 Z48_5 Z48_6);(try clear Z50_0 Z50_1 Z50_2 Z50_3 Z50_4 Z50_5 Z50_6);(try clear Z51_0 Z51_1 Z51_2 Z51_3 Z51_4 Z51_5 Z51_6);(try clear Z54_0 Z54_1 Z54_2 Z54_3 Z54_4 Z54_5 Z54_6);(try clear Z59_0 Z59_1 Z59_2 Z59_3 Z59_4 Z59_5 Z59_6);(try clear Z60_0 Z60_1 Z60_2 Z60_3 Z60_4 Z60_5 Z60_6);(try clear Z65_0 Z65_1 Z65_2 Z65_3 Z65_4 Z65_5 Z65_6);(try clear Z67_0 Z67_1 Z67_2 Z67_3 Z67_4 Z67_5 Z67_6);(try clear Z68_0 Z68_1 Z68_2 Z68_3 Z68_4 Z68_5 Z68_6);(try clear Z69_0 Z69_1 Z69_2 Z69_3 Z69_4 Z69_5 Z69_6);(try clear Z74_0 Z74_1 Z74_2 Z74_3 Z74_4 Z74_5 Z74_6);(try clear Z75_0 Z75_1 Z75_2 Z75_3 Z75_4 Z75_5 Z75_6);(try clear Z81_0 Z81_1 Z81_2 Z81_3 Z81_4 Z81_5 Z81_6);(try clear Z82_0 Z82_1 Z82_2 Z82_3 Z82_4 Z82_5 Z82_6);(try clear Z83_0 Z83_1 Z83_2 Z83_3 Z83_4 Z83_5 Z83_6);(try clear Y42_0 Y42_1 Y42_2 Y42_3 Y42_4 Y42_5 Y42_6);(try clear Y43_0 Y43_1 Y43_2 Y43_3 Y43_4 Y43_5 Y43_6);(try clear Y44_0 Y44_1 Y44_2 Y44_3 Y44_4 Y44_5 Y44_6);(try clear Y48_0 Y48_1 Y48_2 Y48_3 Y48_4 Y48_5 Y48_6);(try clear Y50_0 Y50_1 Y50_2 Y50_3 Y50_4 Y50_5 Y50_6);(try clear Y51_0 Y51_1 Y51_2 Y51_3 Y51_4 Y51_5 Y51_6);(try clear Y54_0 Y54_1 Y54_2 Y54_3 Y54_4 Y54_5 Y54_6);(try clear Y59_0 Y59_1 Y59_2 Y59_3 Y59_4 Y59_5 Y59_6);(try clear Y60_0 Y60_1 Y60_2 Y60_3 Y60_4 Y60_5 Y60_6);(try clear Y65_0 Y65_1 Y65_2 Y65_3 Y65_4 Y65_5 Y65_6);(try clear Y67_0 Y67_1 Y67_2 Y67_3 Y67_4 Y67_5 Y67_6);(try clear Y68_0 Y68_1 Y68_2 Y68_3 Y68_4 Y68_5 Y68_6);(try clear Y69_0 Y69_1 Y69_2 Y69_3 Y69_4 Y69_5 Y69_6);(try clear Y74_0 Y74_1 Y74_2 Y74_3 Y74_4 Y74_5 Y74_6);(try clear Y75_0 Y75_1 Y75_2 Y75_3 Y75_4 Y75_5 Y75_6);(try clear Y81_0 Y81_1 Y81_2 Y81_3 Y81_4 Y81_5 Y81_6);(try clear Y82_0 Y82_1 Y82_2 Y82_3 Y82_4 Y82_5 Y82_6);(try clear Y83_0 Y83_1 Y83_2 Y83_3 Y83_4 Y83_5 Y83_6);obtain ⟨kq,x154_83,rfl,HA,HJ83,BK101,HB⟩ := hcut
                  cases kq with
                  | zero => exact absurd HA.out (by simp [spec_GoodIns.j2])
                  | succ kj83 =>
                   have H := HA.out;clear HA;simp only [spec_GoodIns.j2] at H;by_cases c86 : x154_83 = true
                   ·
                    subst c86;replace H := iT H;by_cases c87 : (a0_1 == 2) = true
                    ·
                     rw [if_pos c87] at H;have c87b0 : (a0_1 == 2) = true := c87;(try (have c87b1 : decide (a0_1 = 2) = true := by simpa using c87));(try (have c87b2 : (a0_1 == 2) = true := by simpa using c87));clear c87;by_cases c88 : a0_6 = 0
                     ·
                      rw [if_pos c88] at H;obtain ⟨c88b0,c88b1⟩ := eT c88;clear c88;obtain rfl := Option.some.inj H;obtain ⟨Z89_0,Z89_1,Z89_2,Z89_3,Z89_4,Z89_5,Z89_6⟩ := cz7 BK101.out;obtain ⟨Y89_0,Y89_1,Y89_2,Y89_3,Y89_4,Y89_5,Y89_6⟩ := fz7 BK101.out
                      as_aux_lemma =>
                       go_wp2;go_ret;exact ⟨oE,oL⟩
                     ·
                      rw [if_neg c88] at H;obtain ⟨c88b0,c88b1⟩ := eF c88;obtain rfl := Option.some.inj H;obtain ⟨Z90_0,Z90_1,Z90_2,Z90_3,Z90_4,Z90_5,Z90_6⟩ := cz7 BK101.out;obtain ⟨Y90_0,Y90_1,Y90_2,Y90_3,Y90_4,Y90_5,Y90_6⟩ := fz7 BK101.out
                      as_aux_lemma =>
                       go_wp2;go_ret;exact ⟨oE,oL⟩
                    ·
                     rw [if_neg c87] at H;have c87b0 : (a0_1 == 2) = false := by simpa using c87
                     (try (have c87b1 : decide (a0_1 = 2) = false := by simpa using c87));(try (have c87b2 : (a0_1 == 2) = false := by simpa using c87));(try (have c87b3 : ¬ (a0_1 = 2) := by simpa using c87));clear c87;obtain rfl := Option.some.inj H
                     as_aux_lemma =>
                      go_wp2;go_ret;exact ⟨oE,oL⟩
                   ·
                    replace c86 := Bool.eq_false_iff.mpr c86;subst c86;replace H := iF H;by_cases c91 : a0_0 = 18
                    ·
                     rw [if_pos c91] at H;obtain ⟨c91b0,c91b1⟩ := eT c91;clear c91;by_cases c92 : (a0_1 == 2) = true
                     ·
                      rw [if_pos c92] at H;have c92b0 : (a0_1 == 2) = true := c92;(try (have c92b1 : decide (a0_1 = 2) = true := by simpa using c92));(try (have c92b2 : (a0_1 == 2) = true := by simpa using c92));clear c92;obtain rfl := Option.some.inj H
                      as_aux_lemma =>
                       go_wp2;go_ret;exact ⟨oE,oL⟩
                     ·
                      rw [if_neg c92] at H;have c92b0 : (a0_1 == 2) = false := by simpa using c92
                      (try (have c92b1 : decide (a0_1 = 2) = false := by simpa using c92));(try (have c92b2 : (a0_1 == 2) = false := by simpa using c92));(try (have c92b3 : ¬ (a0_1 = 2) := by simpa using c92));clear c92;by_cases c93 : a0_6 ≤ 1
                      ·
                       rw [if_pos c93] at H;have c93b0 : decide (a0_6 ≤ 1) = true := decide_eq_true c93;clear c93;obtain rfl := Option.some.inj H;obtain ⟨Z94_0,Z94_1,Z94_2,Z94_3,Z94_4,Z94_5,Z94_6⟩ := cz7 BK101.out;obtain ⟨Y94_0,Y94_1,Y94_2,Y94_3,Y94_4,Y94_5,Y94_6⟩ := fz7 BK101.out
                       as_aux_lemma =>
                        go_wp2;go_ret;exact ⟨oE,oL⟩
                      ·
                       rw [if_neg c93] at H;have c93b0 : decide (a0_6 ≤ 1) = false := decide_eq_false c93;clear c93;obtain rfl := Option.some.inj H;obtain ⟨Z95_0,Z95_1,Z95_2,Z95_3,Z95_4,Z95_5,Z95_6⟩ := cz7 BK101.out;obtain ⟨Y95_0,Y95_1,Y95_2,Y95_3,Y95_4,Y95_5,Y95_6⟩ := fz7 BK101.out
                       as_aux_lemma =>
                        go_wp2;go_ret;exact ⟨oE,oL⟩
                    ·
                     rw [if_neg c91] at H;obtain ⟨c91b0,c91b1⟩ := eF c91;by_cases c96 : a0_0 = 19
                     ·
                      rw [if_pos c96] at H;obtain ⟨c96b0,c96b1⟩ := eT c96;clear c96;by_cases c97 : (a0_1 == 2) = true
                      ·
                       rw [if_pos c97] at H;have c97b0 : (a0_1 == 2) = true := c97;(try (have c97b1 : decide (a0_1 = 2) = true := by simpa using c97));(try (have c97b2 : (a0_1 == 2) = true := by simpa using c97));clear c97;by_cases c98 : a0_6 = 0
                       ·
                        rw [if_pos c98] at H;obtain ⟨c98b0,c98b1⟩ := eT c98;clear c98;by_cases c99 : a0_2 = 0
                        ·
                         rw [if_pos c99] at H;obtain ⟨c99b0,c99b1⟩ := eT c99;clear c99;obtain ⟨t110,A1000,H⟩ := bE H;have A100 := aS A1000;clear A1000;by_cases c101 : t110 = true
                         ·
                          subst c101;replace H := iT H;obtain rfl := Option.some.inj H;obtain ⟨Z102_0,Z102_1,Z102_2,Z102_3,Z102_4,Z102_5,Z102_6⟩ := cz7 BK101.out;obtain ⟨Y102_0,Y102_1,Y102_2,Y102_3,Y102_4,Y102_5,Y102_6⟩ := fz7 BK101.out
                          as_aux_lemma =>
                           go_wp2_with (first | (go_at_call 104;(with_reducible refine (spec_l7Now.calls a0_3 a0_4 a0_5 true _ A100.out).mono ?_);rintro e w103 ⟨rfl,hb⟩;have n0_ := aS (blk_below (oB BK101.out) hb);have n1_ := aS (below_step oL hb);clear BK101;clear HB;have BK101 := n0_;have HB := n1_;clear n0_ n1_;(try clear hb);(try clear hb2);(try clear hk);(try clear hi)));go_ret;exact ⟨oE,oL⟩
                         ·
                          replace c101 := Bool.eq_false_iff.mpr c101;subst c101;replace H := iF H;by_cases c104 : a0_6 = 1
                          ·
                           rw [if_pos c104] at H;obtain ⟨c104b0,c104b1⟩ := eT c104;clear c104;obtain ⟨t111,A1050,H⟩ := bE H;have A105 := aS A1050;clear A1050;obtain rfl := Option.some.inj H;obtain ⟨Z106_0,Z106_1,Z106_2,Z106_3,Z106_4,Z106_5,Z106_6⟩ := cz7 BK101.out;obtain ⟨Y106_0,Y106_1,Y106_2,Y106_3,Y106_4,Y106_5,Y106_6⟩ := fz7 BK101.out
                           as_aux_lemma =>
                            go_wp2_with (first | (go_at_call 104;(with_reducible refine (spec_l7Now.calls a0_3 a0_4 a0_5 false _ A100.out).mono ?_);rintro e w107 ⟨rfl,hb⟩;have n0_ := aS (blk_below (oB BK101.out) hb);have n1_ := aS (below_step oL hb);clear BK101;clear HB;have BK101 := n0_;have HB := n1_;clear n0_ n1_;(try clear hb);(try clear hb2);(try clear hk);(try clear hi);obtain ⟨Z108_0,Z108_1,Z108_2,Z108_3,Z108_4,Z108_5,Z108_6⟩ := cz7 BK101.out;obtain ⟨Y108_0,Y108_1,Y108_2,Y108_3,Y108_4,Y108_5,Y108_6⟩ := fz7 BK101.out) | (go_at_call 105;(with_reducible refine (spec_l7Zero.calls a0_3 a0_4 a0_5 t111 _ A105.out).mono ?_);rintro e w109 ⟨rfl,hb⟩;have n0_ := aS (blk_below (oB BK101.out) hb);have n1_ := aS (below_step oL hb);clear BK101;clear HB;have BK101 := n0_;have HB := n1_;clear n0_ n1_;(try clear hb);(try clear hb2);(try clear hk);(try clear hi)));go_ret;exact ⟨oE,oL⟩
                          ·
                           rw [if_neg c104] at H;obtain ⟨c104b0,c104b1⟩ := eF c104;obtain rfl := Option.some.inj H;obtain ⟨Z110_0,Z110_1,Z110_2,Z110_3,Z110_4,Z110_5,Z110_6⟩ := cz7 BK101.out;obtain ⟨Y110_0,Y110_1,Y110_2,Y110_3,Y110_4,Y110_5,Y110_6⟩ := fz7 BK101.out
                           as_aux_lemma =>
                            go_wp2_with (first | (go_at_call 104;(with_reducible refine (spec_l7Now.calls a0_3 a0_4 a0_5 false _ A100.out).mono ?_);rintro e w111 ⟨rfl,hb⟩;have n0_ := aS (blk_below (oB BK101.out) hb);have n1_ := aS (below_step oL hb);clear BK101;clear HB;have BK101 := n0_;have HB := n1_;clear n0_ n1_;(try clear hb);(try clear hb2);(try clear hk);(try clear hi);obtain ⟨Z112_0,Z112_1,Z112_2,Z112_3,Z112_4,Z112_5,Z112_6⟩ := cz7 BK101.out;obtain ⟨Y112_0,Y112_1,Y112_2,Y112_3,Y112_4,Y112_5,Y112_6⟩ := fz7 BK101.out));go_ret;exact ⟨oE,oL⟩
                        ·
                         rw [if_neg c99] at H;obtain ⟨c99b0,c99b1⟩ := eF c99;by_cases c113 : a0_6 = 1
                         ·
                          rw [if_pos c113] at H;obtain ⟨c113b0,c113b1⟩ := eT c113;clear c113;obtain ⟨t112,A1140,H⟩ := bE H;have A114 := aS A1140;clear A1140;obtain rfl := Option.some.inj H;obtain ⟨Z115_0,Z115_1,Z115_2,Z115_3,Z115_4,Z115_5,Z115_6⟩ := cz7 BK101.out;obtain ⟨Y115_0,Y115_1,Y115_2,Y115_3,Y115_4,Y115_5,Y115_6⟩ := fz7 BK101.out
                          as_aux_lemma =>
                           go_wp2_with (first | (go_at_call 105;(with_reducible refine (spec_l7Zero.calls a0_3 a0_4 a0_5 t112 _ A114.out).mono ?_);rintro e w116 ⟨rfl,hb⟩;have n0_ := aS (blk_below (oB BK101.out) hb);have n1_ := aS (below_step oL hb);clear BK101;clear HB;have BK101 := n0_;have HB := n1_;clear n0_ n1_;(try clear hb);(try clear hb2);(try clear hk);(try clear hi)));go_ret;exact ⟨oE,oL⟩
                         ·
                          rw [if_neg c113] at H;obtain ⟨c113b0,c113b1⟩ := eF c113;obtain rfl := Option.some.inj H;obtain ⟨Z117_0,Z117_1,Z117_2,Z117_3,Z117_4,Z117_5,Z117_6⟩ := cz7 BK101.out;obtain ⟨Y117_0,Y117_1,Y117_2,Y117_3,Y117_4,Y117_5,Y117_6⟩ := fz7 BK101.out
                          as_aux_lemma =>
                           go_wp2;go_ret;exact ⟨oE,oL⟩
                       ·
                        rw [if_neg c98] at H;obtain ⟨c98b0,c98b1⟩ := eF c98;by_cases c118 : a0_6 = 1
                        ·
                         rw [if_pos c118] at H;obtain ⟨c118b0,c118b1⟩ := eT c118;clear c118;obtain ⟨t113,A1190,H⟩ := bE H;have A119 := aS A1190;clear A1190;obtain rfl := Option.some.inj H;obtain ⟨Z120_0,Z120_1,Z120_2,Z120_3,Z120_4,Z120_5,Z120_6⟩ := cz7 BK101.out;obtain ⟨Y120_0,Y120_1,Y120_2,Y120_3,Y120_4,Y120_5,Y120_6⟩ := fz7 BK101.out
                         as_aux_lemma =>
                          go_wp2_with (first | (go_at_call 105;(with_reducible refine (spec_l7Zero.calls a0_3 a0_4 a0_5 t113 _ A119.out).mono ?_);rintro e w121 ⟨rfl,hb⟩;have n0_ := aS (blk_below (oB BK101.out) hb);have n1_ := aS (below_step oL hb);clear BK101;clear HB;have BK101 := n0_;have HB := n1_;clear n0_ n1_;(try clear hb);(try clear hb2);(try clear hk);(try clear hi)));go_ret;exact ⟨oE,oL⟩
                        ·
                         rw [if_neg c118] at H;obtain ⟨c118b0,c118b1⟩ := eF c118;obtain rfl := Option.some.inj H;obtain ⟨Z122_0,Z122_1,Z122_2,Z122_3,Z122_4,Z122_5,Z122_6⟩ := cz7 BK101.out;obtain ⟨Y122_0,Y122_1,Y122_2,Y122_3,Y122_4,Y122_5,Y122_6⟩ := fz7 BK101.out
                         as_aux_lemma =>
                          go_wp2;go_ret;exact ⟨oE,oL⟩
                      ·
                       rw [if_neg c97] at H;have c97b0 : (a0_1 == 2) = false := by simpa using c97
                       (try (have c97b1 : decide (a0_1 = 2) = false := by simpa using c97));(try (have c97b2 : (a0_1 == 2) = false := by simpa using c97));(try (have c97b3 : ¬ (a0_1 = 2) := by simpa using c97));clear c97;obtain rfl := Option.some.inj H
                       as_aux_lemma =>
                        go_wp2;go_ret;exact ⟨oE,oL⟩
                     ·
                      rw [if_neg c96] at H;obtain ⟨c96b0,c96b1⟩ := eF c96;by_cases c123 : a0_0 = 15
                      ·
                       rw [if_pos c123] at H;obtain ⟨c123b0,c123b1⟩ := eT c123;clear c123;by_cases c124 : a0_6 = 3
                       ·
                        rw [if_pos c124] at H;obtain ⟨c124b0,c124b1⟩ := eT c124;clear c124;by_cases c125 : (a0_1 == 2) = true
                        ·
                         rw [if_pos c125] at H;have c125b0 : (a0_1 == 2) = true := c125;(try (have c125b1 : decide (a0_1 = 2) = true := by simpa using c125));(try (have c125b2 : (a0_1 == 2) = true := by simpa using c125));clear c125;by_cases c126 : a0_2 = 0
                         ·
                          rw [if_pos c126] at H;obtain ⟨c126b0,c126b1⟩ := eT c126;clear c126;obtain ⟨t114,A1270,H⟩ := bE H;have A127 := aS A1270;clear A1270;obtain rfl := Option.some.inj H;obtain ⟨Z128_0,Z128_1,Z128_2,Z128_3,Z128_4,Z128_5,Z128_6⟩ := cz7 BK101.out;obtain ⟨Y128_0,Y128_1,Y128_2,Y128_3,Y128_4,Y128_5,Y128_6⟩ := fz7 BK101.out
                          as_aux_lemma =>
                           go_wp2_with (first | (go_at_call 104;(with_reducible refine (spec_l7Now.calls a0_3 a0_4 a0_5 t114 _ A127.out).mono ?_);rintro e w129 ⟨rfl,hb⟩;have n0_ := aS (blk_below (oB BK101.out) hb);have n1_ := aS (below_step oL hb);clear BK101;clear HB;have BK101 := n0_;have HB := n1_;clear n0_ n1_;(try clear hb);(try clear hb2);(try clear hk);(try clear hi)));go_ret;exact ⟨oE,oL⟩
                         ·
                          rw [if_neg c126] at H;obtain ⟨c126b0,c126b1⟩ := eF c126;obtain rfl := Option.some.inj H;obtain ⟨Z130_0,Z130_1,Z130_2,Z130_3,Z130_4,Z130_5,Z130_6⟩ := cz7 BK101.out;obtain ⟨Y130_0,Y130_1,Y130_2,Y130_3,Y130_4,Y130_5,Y130_6⟩ := fz7 BK101.out
                          as_aux_lemma =>
                           go_wp2;go_ret;exact ⟨oE,oL⟩
                        ·
                         rw [if_neg c125] at H;have c125b0 : (a0_1 == 2) = false := by simpa using c125
                         (try (have c125b1 : decide (a0_1 = 2) = false := by simpa using c125));(try (have c125b2 : (a0_1 == 2) = false := by simpa using c125));(try (have c125b3 : ¬ (a0_1 = 2) := by simpa using c125));clear c125;obtain rfl := Option.some.inj H;obtain ⟨Z131_0,Z131_1,Z131_2,Z131_3,Z131_4,Z131_5,Z131_6⟩ := cz7 BK101.out;obtain ⟨Y131_0,Y131_1,Y131_2,Y131_3,Y131_4,Y131_5,Y131_6⟩ := fz7 BK101.out
                         as_aux_lemma =>
                          go_wp2;go_ret;exact ⟨oE,oL⟩
                       ·
                        rw [if_neg c124] at H;obtain ⟨c124b0,c124b1⟩ := eF c124;by_cases c132 : (a0_1 == 2) = true
                        ·
                         rw [if_pos c132] at H;have c132b0 : (a0_1 == 2) = true := c132;(try (have c132b1 : decide (a0_1 = 2) = true := by simpa using c132));(try (have c132b2 : (a0_1 == 2) = true := by simpa using c132));clear c132;by_cases c133 : a0_6 ≤ 6
                         ·
                          rw [if_pos c133] at H;have c133b0 : decide (a0_6 ≤ 6) = true := decide_eq_true c133;clear c133;obtain ⟨t115,A1340,H⟩ := bE H;have A134 := aS A1340;clear A1340;by_cases c135 : t115 = true
                          ·
                           subst c135;replace H := iT H;by_cases c136 : a0_6 > 3
                           ·
                            rw [if_pos c136] at H;have c136b0 : decide (3 < a0_6) = true := decide_eq_true c136;clear c136;obtain rfl := Option.some.inj H;obtain ⟨Z137_0,Z137_1,Z137_2,Z137_3,Z137_4,Z137_5,Z137_6⟩ := cz7 BK101.out;obtain ⟨Y137_0,Y137_1,Y137_2,Y137_3,Y137_4,Y137_5,Y137_6⟩ := fz7 BK101.out
                            as_aux_lemma =>
                             go_wp2_with (first | (go_at_call 105;(with_reducible refine (spec_l7Zero.calls a0_3 a0_4 a0_5 true _ A134.out).mono ?_);rintro e w138 ⟨rfl,hb⟩;have n0_ := aS (blk_below (oB BK101.out) hb);have n1_ := aS (below_step oL hb);clear BK101;clear HB;have BK101 := n0_;have HB := n1_;clear n0_ n1_;(try clear hb);(try clear hb2);(try clear hk);(try clear hi);obtain ⟨Z139_0,Z139_1,Z139_2,Z139_3,Z139_4,Z139_5,Z139_6⟩ := cz7 BK101.out;obtain ⟨Y139_0,Y139_1,Y139_2,Y139_3,Y139_4,Y139_5,Y139_6⟩ := fz7 BK101.out));go_ret;exact ⟨oE,oL⟩
                           ·
                            rw [if_neg c136] at H;have c136b0 : decide (3 < a0_6) = false := decide_eq_false c136;clear c136;obtain rfl := Option.some.inj H;obtain ⟨Z140_0,Z140_1,Z140_2,Z140_3,Z140_4,Z140_5,Z140_6⟩ := cz7 BK101.out;obtain ⟨Y140_0,Y140_1,Y140_2,Y140_3,Y140_4,Y140_5,Y140_6⟩ := fz7 BK101.out
                            as_aux_lemma =>
                             go_wp2_with (first | (go_at_call 105;(with_reducible refine (spec_l7Zero.calls a0_3 a0_4 a0_5 true _ A134.out).mono ?_);rintro e w141 ⟨rfl,hb⟩;have n0_ := aS (blk_below (oB BK101.out) hb);have n1_ := aS (below_step oL hb);clear BK101;clear HB;have BK101 := n0_;have HB := n1_;clear n0_ n1_;(try clear hb);(try clear hb2);(try clear hk);(try clear hi);obtain ⟨Z142_0,Z142_1,Z142_2,Z142_3,Z142_4,Z142_5,Z142_6⟩ := cz7 BK101.out;obtain ⟨Y142_0,Y142_1,Y142_2,Y142_3,Y142_4,Y142_5,Y142_6⟩ := fz7 BK101.out));go_ret;exact ⟨oE,oL⟩
                          ·
                           replace c135 := Bool.eq_false_iff.mpr c135;subst c135;replace H := iF H;obtain rfl := Option.some.inj H;obtain ⟨Z143_0,Z143_1,Z143_2,Z143_3,Z143_4,Z143_5,Z143_6⟩ := cz7 BK101.out;obtain ⟨Y143_0,Y143_1,Y143_2,Y143_3,Y143_4,Y143_5,Y143_6⟩ := fz7 BK101.out
                           as_aux_lemma =>
                            go_wp2_with (first | (go_at_call 105;(with_reducible refine (spec_l7Zero.calls a0_3 a0_4 a0_5 false _ A134.out).mono ?_);rintro e w144 ⟨rfl,hb⟩;have n0_ := aS (blk_below (oB BK101.out) hb);have n1_ := aS (below_step oL hb);clear BK101;clear HB;have BK101 := n0_;have HB := n1_;clear n0_ n1_;(try clear hb);(try clear hb2);(try clear hk);(try clear hi)));go_ret;exact ⟨oE,oL⟩
                         ·
                          rw [if_neg c133] at H;have c133b0 : decide (a0_6 ≤ 6) = false := decide_eq_false c133;clear c133;obtain rfl := Option.some.inj H;obtain ⟨Z145_0,Z145_1,Z145_2,Z145_3,Z145_4,Z145_5,Z145_6⟩ := cz7 BK101.out;obtain ⟨Y145_0,Y145_1,Y145_2,Y145_3,Y145_4,Y145_5,Y145_6⟩ := fz7 BK101.out
                          as_aux_lemma =>
                           go_wp2;go_ret;exact ⟨oE,oL⟩
                        ·
                         rw [if_neg c132] at H;have c132b0 : (a0_1 == 2) = false := by simpa using c132
                         (try (have c132b1 : decide (a0_1 = 2) = false := by simpa using c132));(try (have c132b2 : (a0_1 == 2) = false := by simpa using c132));(try (have c132b3 : ¬ (a0_1 = 2) := by simpa using c132));clear c132;obtain rfl := Option.some.inj H;obtain ⟨Z146_0,Z146_1,Z146_2,Z146_3,Z146_4,Z146_5,Z146_6⟩ := cz7 BK101.out;obtain ⟨Y146_0,Y146_1,Y146_2,Y146_3,Y146_4,Y146_5,Y146_6⟩ := fz7 BK101.out
                         as_aux_lemma =>
                          go_wp2;go_ret;exact ⟨oE,oL⟩
                      ·
                       rw [if_neg c123] at H;obtain ⟨c123b0,c123b1⟩ := eF c123;obtain rfl := Option.some.inj H
                       as_aux_lemma =>
                        go_wp2;go_ret;exact ⟨oE,oL⟩

end Go.Proofs.Ytjnifnhpnccpcaa.G
