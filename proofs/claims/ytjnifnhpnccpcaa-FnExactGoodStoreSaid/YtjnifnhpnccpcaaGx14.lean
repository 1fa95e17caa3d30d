-- Made by this session's program gprint.py out of the translation. Not trusted: Lean checks it.
import Derived.Test.YtjnifnhpnccpcaaGx0
import Derived.Test.YtjnifnhpnccpcaaGx1
import Derived.Test.YtjnifnhpnccpcaaGx13
namespace Go.Proofs.Ytjnifnhpnccpcaa.G
open Go.RowKit Go.Proofs.YtjnifnhpnccpcaaW.PrintWords Go.Proofs.YtjnifnhpnccpcaaW.PrintLast Go.Proofs.YtjnifnhpnccpcaaW.PrintMore
attribute [local go_sem] max2_int min2_int max_two min_two max_three min_three max_four min_four   -- for this text's walks alone
set_option linter.unusedVariables false
set_option linter.unusedSimpArgs false

attribute [local go_sem high] eqA75
/-! ### impl_isKind: function 109 -/
mutual
def impl_isKind.j0 : Nat → Int → Bool → Int → Bool → Int → Int → Int → Int → Int → Int → Int → Option (Bool)
 | 0,_,_,_,_,_,_,_,_,_,_,_ => none
 | k + 1,x3,x4,x12,x13,x102000,x102001,x102002,x102003,x102004,x102005,x102006 => if x13 = true then (if x102006 = 0 then (if x3 = 1 then (some x4) else (some true)) else (some false)) else (if x12 = 2 then (if x102006 = 0 then ((impl_isSettable.f x3).bind fun t102 => (some t102)) else (some false)) else (if x12 = 9 then (if x4 = true then (some (x102006 == 0)) else (some false)) else (if x12 = 10 then (if x4 = true then (if x102006 = 0 then ((impl_isPlain.f x3).bind fun t103 => (some t103)) else (some false)) else (some false)) else (if x12 = 11 then (if x102002 = 0 then (if x102006 ≤ 3 then ((impl_isSettable.f x3).bind fun t104 => (some t104)) else (some false)) else (some false)) else (if x12 = 12 then (some (x3 == 0)) else (if x12 = 13 then (if x4 = true then (if x102002 ≤ 1 then (some (x3 == 7)) else (some false)) else (some false)) else (if x12 = 14 then (if x4 = true then (if x102002 = 0 then (if x102006 ≤ 1 then ((impl_isPlain.f x3).bind fun t105 => (some t105)) else (some false)) else (some false)) else (some false)) else (if x12 = 15 then ((impl_isFlow.f k x102000 x102001 x102002 x102003 x102004 x102005 x102006).bind fun t106 => (some t106)) else (if x12 = 16 then (impl_isKind.j1 k x3 x4 x12 (x12 == 16) x102000 x102001 x102002 x102003 x102004 x102005 x102006) else (impl_isKind.j1 k x3 x4 x12 (x12 == 17) x102000 x102001 x102002 x102003 x102004 x102005 x102006))))))))))
def impl_isKind.j1 : Nat → Int → Bool → Int → Bool → Int → Int → Int → Int → Int → Int → Int → Option (Bool)
 | 0,_,_,_,_,_,_,_,_,_,_,_ => none
 | k + 1,x3,x4,x12,x111,x102000,x102001,x102002,x102003,x102004,x102005,x102006 => if x111 = true then (if x4 = true then (if x102006 = 0 then (some (x3 != 1)) else (some false)) else (some false)) else (if x12 = 18 then (if x4 = true then (some false) else (if x102006 ≤ 1 then (some (x3 == 0)) else (some false))) else (if x12 = 19 then (if x4 = true then (if x102006 = 0 then (if x102002 = 0 then ((impl_isNow.f x102003 x102004 x102005).bind fun t107 => (if t107 = true then (some true) else (if x102006 = 1 then (some (x102003 == 0 && (x102004 == 0 && (x102005 == 0)))) else (some false)))) else (if x102006 = 1 then (some (x102003 == 0 && (x102004 == 0 && (x102005 == 0)))) else (some false))) else (if x102006 = 1 then (some (x102003 == 0 && (x102004 == 0 && (x102005 == 0)))) else (some false))) else (some false)) else (some false)))
end
def impl_isKind.f (k : Nat) (a0_0 : Int) (a0_1 : Int) (a0_2 : Int) (a0_3 : Int) (a0_4 : Int) (a0_5 : Int) (a0_6 : Int) : Option (Bool) := if a0_0 = 1 then (impl_isKind.j0 k a0_3 (a0_1 == 2) a0_0 (a0_0 == 1) a0_0 a0_1 a0_2 a0_3 a0_4 a0_5 a0_6) else (if a0_0 = 3 then (impl_isKind.j0 k a0_3 (a0_1 == 2) a0_0 (a0_0 == 3) a0_0 a0_1 a0_2 a0_3 a0_4 a0_5 a0_6) else (if a0_0 = 4 then (impl_isKind.j0 k a0_3 (a0_1 == 2) a0_0 (a0_0 == 4) a0_0 a0_1 a0_2 a0_3 a0_4 a0_5 a0_6) else (if a0_0 = 5 then (impl_isKind.j0 k a0_3 (a0_1 == 2) a0_0 (a0_0 == 5) a0_0 a0_1 a0_2 a0_3 a0_4 a0_5 a0_6) else (if a0_0 = 6 then (impl_isKind.j0 k a0_3 (a0_1 == 2) a0_0 (a0_0 == 6) a0_0 a0_1 a0_2 a0_3 a0_4 a0_5 a0_6) else (if a0_0 = 7 then (impl_isKind.j0 k a0_3 (a0_1 == 2) a0_0 (a0_0 == 7) a0_0 a0_1 a0_2 a0_3 a0_4 a0_5 a0_6) else (impl_isKind.j0 k a0_3 (a0_1 == 2) a0_0 (a0_0 == 8) a0_0 a0_1 a0_2 a0_3 a0_4 a0_5 a0_6))))))
theorem impl_isKind.mono_l : ∀ k,(∀ y0 y1 y2 y3 y4 y5 y6 y7 y8 y9 y10,LeO (impl_isKind.j0 k y0 y1 y2 y3 y4 y5 y6 y7 y8 y9 y10) (impl_isKind.j0 (k + 1) y0 y1 y2 y3 y4 y5 y6 y7 y8 y9 y10)) ∧ (∀ y0 y1 y2 y3 y4 y5 y6 y7 y8 y9 y10,LeO (impl_isKind.j1 k y0 y1 y2 y3 y4 y5 y6 y7 y8 y9 y10) (impl_isKind.j1 (k + 1) y0 y1 y2 y3 y4 y5 y6 y7 y8 y9 y10))
 | 0 => ⟨fun _ _ _ _ _ _ _ _ _ _ _ r h => by simp [impl_isKind.j0] at h,fun _ _ _ _ _ _ _ _ _ _ _ r h => by simp [impl_isKind.j1] at h⟩
 | k + 1 => by
  obtain ⟨ih0,ih1⟩ := impl_isKind.mono_l k
  refine ⟨?_,?_⟩
  ·
   intro y0 y1 y2 y3 y4 y5 y6 y7 y8 y9 y10
   unfold impl_isKind.j0
   repeat' first
   | (with_reducible exact ih0 _ _ _ _ _ _ _ _ _ _ _)
   | (with_reducible exact ih1 _ _ _ _ _ _ _ _ _ _ _)
   | (with_reducible exact impl_isFlow.mono _ _ _ _ _ _ _ _)
   | (with_reducible exact LeO.refl _)
   | (with_reducible exact LeO.none _)
   | (with_reducible refine LeO.ite ?_ ?_)
   | (with_reducible refine LeO.bind ?_ (fun _ => ?_))
   | exact ih0 _ _ _ _ _ _ _ _ _ _ _
   | exact ih1 _ _ _ _ _ _ _ _ _ _ _
   | exact impl_isFlow.mono _ _ _ _ _ _ _ _
   | exact LeO.none _
   | refine LeO.ite ?_ ?_
   | refine LeO.bind ?_ (fun _ => ?_)
  ·
   intro y0 y1 y2 y3 y4 y5 y6 y7 y8 y9 y10
   unfold impl_isKind.j1
   repeat' first
   | (with_reducible exact ih0 _ _ _ _ _ _ _ _ _ _ _)
   | (with_reducible exact ih1 _ _ _ _ _ _ _ _ _ _ _)
   | (with_reducible exact impl_isFlow.mono _ _ _ _ _ _ _ _)
   | (with_reducible exact LeO.refl _)
   | (with_reducible exact LeO.none _)
   | (with_reducible refine LeO.ite ?_ ?_)
   | (with_reducible refine LeO.bind ?_ (fun _ => ?_))
   | exact ih0 _ _ _ _ _ _ _ _ _ _ _
   | exact ih1 _ _ _ _ _ _ _ _ _ _ _
   | exact impl_isFlow.mono _ _ _ _ _ _ _ _
   | exact LeO.none _
   | refine LeO.ite ?_ ?_
   | refine LeO.bind ?_ (fun _ => ?_)
theorem impl_isKind.mono : ∀ a0 a1 a2 a3 a4 a5 a6 k,LeO (impl_isKind.f k a0 a1 a2 a3 a4 a5 a6) (impl_isKind.f (k + 1) a0 a1 a2 a3 a4 a5 a6) := by
 intro a0 a1 a2 a3 a4 a5 a6 k
 obtain ⟨ih0,ih1⟩ := impl_isKind.mono_l k
 unfold impl_isKind.f
 repeat' first
   | (with_reducible exact ih0 _ _ _ _ _ _ _ _ _ _ _)
   | (with_reducible exact ih1 _ _ _ _ _ _ _ _ _ _ _)
   | (with_reducible exact impl_isFlow.mono _ _ _ _ _ _ _ _)
   | (with_reducible exact LeO.refl _)
   | (with_reducible exact LeO.none _)
   | (with_reducible refine LeO.ite ?_ ?_)
   | (with_reducible refine LeO.bind ?_ (fun _ => ?_))
   | exact ih0 _ _ _ _ _ _ _ _ _ _ _
   | exact ih1 _ _ _ _ _ _ _ _ _ _ _
   | exact impl_isFlow.mono _ _ _ _ _ _ _ _
   | exact LeO.none _
   | refine LeO.ite ?_ ?_
   | refine LeO.bind ?_ (fun _ => ?_)
set_option maxHeartbeats 8000000 in
set_option maxRecDepth 100000 in
theorem impl_isKind.calls (k : Nat) (a0_0 : Int) (a0_1 : Int) (a0_2 : Int) (a0_3 : Int) (a0_4 : Int) (a0_5 : Int) (a0_6 : Int) (r : Bool) (w : World) (h : impl_isKind.f k a0_0 a0_1 a0_2 a0_3 a0_4 a0_5 a0_6 = some r) :
  Calls Try.prog 109 #[.agg #[.int .i64 a0_0,.int .i64 a0_1,.int .i64 a0_2,.int .i64 a0_3,.int .i64 a0_4,.int .i64 a0_5,.int .i64 a0_6]] w fun e w' => e = .returned (.bool r) ∧ Below w.heap.size w w' := by
 have hu77 := Try.underlying77;have hu75 := Try.underlying75;have HB := aS (Below.refl w.heap.size w);have H : (if a0_0 = 1 then (impl_isKind.j0 k a0_3 (a0_1 == 2) a0_0 (a0_0 == 1) a0_0 a0_1 a0_2 a0_3 a0_4 a0_5 a0_6) else (if a0_0 = 3 then (impl_isKind.j0 k a0_3 (a0_1 == 2) a0_0 (a0_0 == 3) a0_0 a0_1 a0_2 a0_3 a0_4 a0_5 a0_6) else (if a0_0 = 4 then (impl_isKind.j0 k a0_3 (a0_1 == 2) a0_0 (a0_0 == 4) a0_0 a0_1 a0_2 a0_3 a0_4 a0_5 a0_6) else (if a0_0 = 5 then (impl_isKind.j0 k a0_3 (a0_1 == 2) a0_0 (a0_0 == 5) a0_0 a0_1 a0_2 a0_3 a0_4 a0_5 a0_6) else (if a0_0 = 6 then (impl_isKind.j0 k a0_3 (a0_1 == 2) a0_0 (a0_0 == 6) a0_0 a0_1 a0_2 a0_3 a0_4 a0_5 a0_6) else (if a0_0 = 7 then (impl_isKind.j0 k a0_3 (a0_1 == 2) a0_0 (a0_0 == 7) a0_0 a0_1 a0_2 a0_3 a0_4 a0_5 a0_6) else (impl_isKind.j0 k a0_3 (a0_1 == 2) a0_0 (a0_0 == 8) a0_0 a0_1 a0_2 a0_3 a0_4 a0_5 a0_6))))))) = some r := h;clear h;have HC2 := aS H;clear H;go_enter Try.func109,Try.ntmps109;go_upto_if 13 with (first | ((with_reducible refine gate_dst (N := 1) rfl ?_);refine boxE (w := w) oL (cs := #[.int .i64 a0_0,.int .i64 a0_1,.int .i64 a0_2,.int .i64 a0_3,.int .i64 a0_4,.int .i64 a0_5,.int .i64 a0_6]) (t := 77) ?_;clear HB;intro gb101 w3 HB BK101 GW101;have GE101 := GW101;obtain ⟨Z4_0,Z4_1,Z4_2,Z4_3,Z4_4,Z4_5,Z4_6⟩ := cz7 BK101.out;obtain ⟨Y4_0,Y4_1,Y4_2,Y4_3,Y4_4,Y4_5,Y4_6⟩ := fz7 BK101.out));(try simp only [Act.put,List.setIfInBounds_toArray,List.set_cons_zero,List.set_cons_succ]);go_cut [13] (fun v13 wc => ∃ (kq : Nat) (x13_1 : Bool),v13 = .bool x13_1 ∧ Aside0 (impl_isKind.j0 kq a0_3 (a0_1 == 2) a0_0 x13_1 a0_0 a0_1 a0_2 a0_3 a0_4 a0_5 a0_6 = some r) ∧ Aside0 (kq ≤ k) ∧ Aside0 (wc.heap[gb101]? = some (.cells #[.int .i64 a0_0,.int .i64 a0_1,.int .i64 a0_2,.int .i64 a0_3,.int .i64 a0_4,.int .i64 a0_5,.int .i64 a0_6] 77 (0,0))) ∧ Aside0 (Below w.heap.size w wc))
 case first =>
  have H := HC2.out;clear HC2;by_cases c5 : a0_0 = 1;{rw [if_pos c5] at H;obtain ⟨c5b0,c5b1⟩ := eT c5;clear c5;(first | rw [c5b0] | (simp only [i64_w,i32_w];rw [c5b0]) | skip);have H' := aS H;clear H;go_wp2;go_meet;case rel => exact ⟨_,((a0_0 == 1)),oE,H',⟨by first | omega | exact Nat.le_refl _⟩,⟨oB BK101.out⟩,⟨oL⟩⟩}
  ·
   rw [if_neg c5] at H;obtain ⟨c5b0,c5b1⟩ := eF c5;(first | rw [c5b0] | (simp only [i64_w,i32_w];rw [c5b0]) | skip);by_cases c6 : a0_0 = 3;{rw [if_pos c6] at H;obtain ⟨c6b0,c6b1⟩ := eT c6;clear c6;have H' := aS H;clear H;go_wp2;go_meet;case rel => exact ⟨_,((a0_0 == 3)),oE,H',⟨by first | omega | exact Nat.le_refl _⟩,⟨oB BK101.out⟩,⟨oL⟩⟩}
   ·
    rw [if_neg c6] at H;obtain ⟨c6b0,c6b1⟩ := eF c6;by_cases c7 : a0_0 = 4;{rw [if_pos c7] at H;obtain ⟨c7b0,c7b1⟩ := eT c7;clear c7;have H' := aS H;clear H;go_wp2;go_meet;case rel => exact ⟨_,((a0_0 == 4)),oE,H',⟨by first | omega | exact Nat.le_refl _⟩,⟨oB BK101.out⟩,⟨oL⟩⟩}
    ·
     rw [if_neg c7] at H;obtain ⟨c7b0,c7b1⟩ := eF c7;by_cases c8 : a0_0 = 5;{rw [if_pos c8] at H;obtain ⟨c8b0,c8b1⟩ := eT c8;clear c8;have H' := aS H;clear H;go_wp2;go_meet;case rel => exact ⟨_,((a0_0 == 5)),oE,H',⟨by first | omega | exact Nat.le_refl _⟩,⟨oB BK101.out⟩,⟨oL⟩⟩}
     ·
      rw [if_neg c8] at H;obtain ⟨c8b0,c8b1⟩ := eF c8;by_cases c9 : a0_0 = 6;{rw [if_pos c9] at H;obtain ⟨c9b0,c9b1⟩ := eT c9;clear c9;have H' := aS H;clear H;go_wp2;go_meet;case rel => exact ⟨_,((a0_0 == 6)),oE,H',⟨by first | omega | exact Nat.le_refl _⟩,⟨oB BK101.out⟩,⟨oL⟩⟩}
      ·
       rw [if_neg c9] at H;obtain ⟨c9b0,c9b1⟩ := eF c9;by_cases c10 : a0_0 = 7;{rw [if_pos c10] at H;obtain ⟨c10b0,c10b1⟩ := eT c10;clear c10;have H' := aS H;clear H;go_wp2;go_meet;case rel => exact ⟨_,((a0_0 == 7)),oE,H',⟨by first | omega | exact Nat.le_refl _⟩,⟨oB BK101.out⟩,⟨oL⟩⟩};{rw [if_neg c10] at H;obtain ⟨c10b0,c10b1⟩ := eF c10;have H' := aS H;clear H;go_wp2;go_meet;case rel => exact ⟨_,((a0_0 == 8)),oE,H',⟨by first | omega | exact Nat.le_refl _⟩,⟨oB BK101.out⟩,⟨oL⟩⟩}
 case rest =>
  clear HC2;(try clear c1);(try clear p2);(try clear c5);(try clear c5b0);(try clear c5b1);(try clear c6);(try clear c6b0);(try clear c6b1);(try clear c7);(try clear c7b0);(try clear c7b1);(try clear c8);(try clear c8b0);(try clear c8b1);(try clear c9);(try clear c9b0);(try clear c9b1);(try clear c10);(try clear c10b0);(try clear c10b1);(try clear Z4_0 Z4_1 Z4_2 Z4_3 Z4_4 Z4_5 Z4_6);(try clear Y4_0 Y4_1 Y4_2 Y4_3 Y4_4 Y4_5 Y4_6);obtain ⟨kq,x13_1,rfl,HA,HJ1,BK101,HB⟩ := hcut;cases kq with
  | zero => exact absurd HA.out (by simp [impl_isKind.j0])
  | succ kj1 =>
   have H := HA.out;clear HA;simp only [impl_isKind.j0] at H;by_cases c11 : x13_1 = true
   ·
    subst c11;replace H := iT H;by_cases c12 : a0_6 = 0
    ·
     rw [if_pos c12] at H;obtain ⟨c12b0,c12b1⟩ := eT c12;clear c12;by_cases c13 : a0_3 = 1;{rw [if_pos c13] at H;obtain ⟨c13b0,c13b1⟩ := eT c13;clear c13;obtain rfl := Option.some.inj H;obtain ⟨Z14_0,Z14_1,Z14_2,Z14_3,Z14_4,Z14_5,Z14_6⟩ := cz7 BK101.out;obtain ⟨Y14_0,Y14_1,Y14_2,Y14_3,Y14_4,Y14_5,Y14_6⟩ := fz7 BK101.out;go_wp2;go_ret;exact ⟨oE,oL⟩};{rw [if_neg c13] at H;obtain ⟨c13b0,c13b1⟩ := eF c13;obtain rfl := Option.some.inj H;obtain ⟨Z15_0,Z15_1,Z15_2,Z15_3,Z15_4,Z15_5,Z15_6⟩ := cz7 BK101.out;obtain ⟨Y15_0,Y15_1,Y15_2,Y15_3,Y15_4,Y15_5,Y15_6⟩ := fz7 BK101.out;go_wp2;go_ret;exact ⟨oE,oL⟩}
    · rw [if_neg c12] at H;obtain ⟨c12b0,c12b1⟩ := eF c12;obtain rfl := Option.some.inj H;obtain ⟨Z16_0,Z16_1,Z16_2,Z16_3,Z16_4,Z16_5,Z16_6⟩ := cz7 BK101.out;obtain ⟨Y16_0,Y16_1,Y16_2,Y16_3,Y16_4,Y16_5,Y16_6⟩ := fz7 BK101.out;go_wp2;go_ret;exact ⟨oE,oL⟩
   ·
    replace c11 := Bool.eq_false_iff.mpr c11;subst c11;replace H := iF H;by_cases c17 : a0_0 = 2
    ·
     rw [if_pos c17] at H;obtain ⟨c17b0,c17b1⟩ := eT c17;clear c17;by_cases c18 : a0_6 = 0
     ·
      rw [if_pos c18] at H;obtain ⟨c18b0,c18b1⟩ := eT c18;clear c18;obtain ⟨t102,A190,H⟩ := bE H;have A19 := aS A190;clear A190;obtain rfl := Option.some.inj H;obtain ⟨Z20_0,Z20_1,Z20_2,Z20_3,Z20_4,Z20_5,Z20_6⟩ := cz7 BK101.out;obtain ⟨Y20_0,Y20_1,Y20_2,Y20_3,Y20_4,Y20_5,Y20_6⟩ := fz7 BK101.out;go_wp2_with (first | (go_at_call 128;(with_reducible refine (impl_isSettable.calls a0_3 t102 _ A19.out).mono ?_);rintro e w' ⟨rfl,⟨nd,rfl⟩⟩));go_ret;exact ⟨oE,oL⟩
     · rw [if_neg c18] at H;obtain ⟨c18b0,c18b1⟩ := eF c18;obtain rfl := Option.some.inj H;obtain ⟨Z21_0,Z21_1,Z21_2,Z21_3,Z21_4,Z21_5,Z21_6⟩ := cz7 BK101.out;obtain ⟨Y21_0,Y21_1,Y21_2,Y21_3,Y21_4,Y21_5,Y21_6⟩ := fz7 BK101.out;go_wp2;go_ret;exact ⟨oE,oL⟩
    ·
     rw [if_neg c17] at H;obtain ⟨c17b0,c17b1⟩ := eF c17;by_cases c22 : a0_0 = 9
     ·
      rw [if_pos c22] at H;obtain ⟨c22b0,c22b1⟩ := eT c22;clear c22;by_cases c23 : (a0_1 == 2) = true;{rw [if_pos c23] at H;have c23b0 : (a0_1 == 2) = true := c23;(try (have c23b1 : decide (a0_1 = 2) = true := by simpa using c23));(try (have c23b2 : (a0_1 == 2) = true := by simpa using c23));clear c23;obtain rfl := Option.some.inj H;obtain ⟨Z24_0,Z24_1,Z24_2,Z24_3,Z24_4,Z24_5,Z24_6⟩ := cz7 BK101.out;obtain ⟨Y24_0,Y24_1,Y24_2,Y24_3,Y24_4,Y24_5,Y24_6⟩ := fz7 BK101.out;go_wp2;go_ret;exact ⟨oE,oL⟩}
      ·
       rw [if_neg c23] at H;have c23b0 : (a0_1 == 2) = false := by simpa using c23
       (try (have c23b1 : decide (a0_1 = 2) = false := by simpa using c23));(try (have c23b2 : (a0_1 == 2) = false := by simpa using c23));(try (have c23b3 : ¬ (a0_1 = 2) := by simpa using c23));clear c23;obtain rfl := Option.some.inj H;go_wp2;go_ret;exact ⟨oE,oL⟩
     ·
      rw [if_neg c22] at H;obtain ⟨c22b0,c22b1⟩ := eF c22;by_cases c25 : a0_0 = 10
      ·
       rw [if_pos c25] at H;obtain ⟨c25b0,c25b1⟩ := eT c25;clear c25;by_cases c26 : (a0_1 == 2) = true
       ·
        rw [if_pos c26] at H;have c26b0 : (a0_1 == 2) = true := c26;(try (have c26b1 : decide (a0_1 = 2) = true := by simpa using c26));(try (have c26b2 : (a0_1 == 2) = true := by simpa using c26));clear c26;by_cases c27 : a0_6 = 0
        ·
         rw [if_pos c27] at H;obtain ⟨c27b0,c27b1⟩ := eT c27;clear c27;obtain ⟨t103,A280,H⟩ := bE H;have A28 := aS A280;clear A280;obtain rfl := Option.some.inj H;obtain ⟨Z29_0,Z29_1,Z29_2,Z29_3,Z29_4,Z29_5,Z29_6⟩ := cz7 BK101.out;obtain ⟨Y29_0,Y29_1,Y29_2,Y29_3,Y29_4,Y29_5,Y29_6⟩ := fz7 BK101.out;go_wp2_with (first | (go_at_call 129;(with_reducible refine (impl_isPlain.calls a0_3 t103 _ A28.out).mono ?_);rintro e w' ⟨rfl,⟨nd,rfl⟩⟩));go_ret;exact ⟨oE,oL⟩
        · rw [if_neg c27] at H;obtain ⟨c27b0,c27b1⟩ := eF c27;obtain rfl := Option.some.inj H;obtain ⟨Z30_0,Z30_1,Z30_2,Z30_3,Z30_4,Z30_5,Z30_6⟩ := cz7 BK101.out;obtain ⟨Y30_0,Y30_1,Y30_2,Y30_3,Y30_4,Y30_5,Y30_6⟩ := fz7 BK101.out;go_wp2;go_ret;exact ⟨oE,oL⟩
       ·
        rw [if_neg c26] at H;have c26b0 : (a0_1 == 2) = false := by simpa using c26
        (try (have c26b1 : decide (a0_1 = 2) = false := by simpa using c26));(try (have c26b2 : (a0_1 == 2) = false := by simpa using c26));(try (have c26b3 : ¬ (a0_1 = 2) := by simpa using c26));clear c26;obtain rfl := Option.some.inj H;go_wp2;go_ret;exact ⟨oE,oL⟩
      ·
       rw [if_neg c25] at H;obtain ⟨c25b0,c25b1⟩ := eF c25;by_cases c31 : a0_0 = 11
       ·
        rw [if_pos c31] at H;obtain ⟨c31b0,c31b1⟩ := eT c31;clear c31;by_cases c32 : a0_2 = 0
        ·
         rw [if_pos c32] at H;obtain ⟨c32b0,c32b1⟩ := eT c32;clear c32;by_cases c33 : a0_6 ≤ 3
         ·
          rw [if_pos c33] at H;have c33b0 : decide (a0_6 ≤ 3) = true := decide_eq_true c33;clear c33;obtain ⟨t104,A340,H⟩ := bE H;have A34 := aS A340;clear A340;obtain rfl := Option.some.inj H;obtain ⟨Z35_0,Z35_1,Z35_2,Z35_3,Z35_4,Z35_5,Z35_6⟩ := cz7 BK101.out;obtain ⟨Y35_0,Y35_1,Y35_2,Y35_3,Y35_4,Y35_5,Y35_6⟩ := fz7 BK101.out;go_wp2_with (first | (go_at_call 128;(with_reducible refine (impl_isSettable.calls a0_3 t104 _ A34.out).mono ?_);rintro e w' ⟨rfl,⟨nd,rfl⟩⟩));go_ret;exact ⟨oE,oL⟩
         · rw [if_neg c33] at H;have c33b0 : decide (a0_6 ≤ 3) = false := decide_eq_false c33;clear c33;obtain rfl := Option.some.inj H;obtain ⟨Z36_0,Z36_1,Z36_2,Z36_3,Z36_4,Z36_5,Z36_6⟩ := cz7 BK101.out;obtain ⟨Y36_0,Y36_1,Y36_2,Y36_3,Y36_4,Y36_5,Y36_6⟩ := fz7 BK101.out;go_wp2;go_ret;exact ⟨oE,oL⟩
        · rw [if_neg c32] at H;obtain ⟨c32b0,c32b1⟩ := eF c32;obtain rfl := Option.some.inj H;obtain ⟨Z37_0,Z37_1,Z37_2,Z37_3,Z37_4,Z37_5,Z37_6⟩ := cz7 BK101.out;obtain ⟨Y37_0,Y37_1,Y37_2,Y37_3,Y37_4,Y37_5,Y37_6⟩ := fz7 BK101.out;go_wp2;go_ret;exact ⟨oE,oL⟩
       ·
        rw [if_neg c31] at H;obtain ⟨c31b0,c31b1⟩ := eF c31;by_cases c38 : a0_0 = 12;{rw [if_pos c38] at H;obtain ⟨c38b0,c38b1⟩ := eT c38;clear c38;obtain rfl := Option.some.inj H;go_wp2;go_ret;exact ⟨oE,oL⟩}
        ·
         rw [if_neg c38] at H;obtain ⟨c38b0,c38b1⟩ := eF c38;by_cases c39 : a0_0 = 13
         ·
          rw [if_pos c39] at H;obtain ⟨c39b0,c39b1⟩ := eT c39;clear c39;by_cases c40 : (a0_1 == 2) = true
          ·
           rw [if_pos c40] at H;have c40b0 : (a0_1 == 2) = true := c40;(try (have c40b1 : decide (a0_1 = 2) = true := by simpa using c40));(try (have c40b2 : (a0_1 == 2) = true := by simpa using c40));clear c40;by_cases c41 : a0_2 ≤ 1;{rw [if_pos c41] at H;have c41b0 : decide (a0_2 ≤ 1) = true := decide_eq_true c41;clear c41;obtain rfl := Option.some.inj H;obtain ⟨Z42_0,Z42_1,Z42_2,Z42_3,Z42_4,Z42_5,Z42_6⟩ := cz7 BK101.out;obtain ⟨Y42_0,Y42_1,Y42_2,Y42_3,Y42_4,Y42_5,Y42_6⟩ := fz7 BK101.out;go_wp2;go_ret;exact ⟨oE,oL⟩};{rw [if_neg c41] at H;have c41b0 : decide (a0_2 ≤ 1) = false := decide_eq_false c41;clear c41;obtain rfl := Option.some.inj H;obtain ⟨Z43_0,Z43_1,Z43_2,Z43_3,Z43_4,Z43_5,Z43_6⟩ := cz7 BK101.out;obtain ⟨Y43_0,Y43_1,Y43_2,Y43_3,Y43_4,Y43_5,Y43_6⟩ := fz7 BK101.out;go_wp2;go_ret;exact ⟨oE,oL⟩}
          ·
           rw [if_neg c40] at H;have c40b0 : (a0_1 == 2) = false := by simpa using c40
           (try (have c40b1 : decide (a0_1 = 2) = false := by simpa using c40));(try (have c40b2 : (a0_1 == 2) = false := by simpa using c40));(try (have c40b3 : ¬ (a0_1 = 2) := by simpa using c40));clear c40;obtain rfl := Option.some.inj H;go_wp2;go_ret;exact ⟨oE,oL⟩
         ·
          rw [if_neg c39] at H;obtain ⟨c39b0,c39b1⟩ := eF c39;by_cases c44 : a0_0 = 14
          ·
           rw [if_pos c44] at H;obtain ⟨c44b0,c44b1⟩ := eT c44;clear c44;by_cases c45 : (a0_1 == 2) = true
           ·
            rw [if_pos c45] at H;have c45b0 : (a0_1 == 2) = true := c45;(try (have c45b1 : decide (a0_1 = 2) = true := by simpa using c45));(try (have c45b2 : (a0_1 == 2) = true := by simpa using c45));clear c45;by_cases c46 : a0_2 = 0
            ·
             rw [if_pos c46] at H;obtain ⟨c46b0,c46b1⟩ := eT c46;clear c46;by_cases c47 : a0_6 ≤ 1
             ·
              rw [if_pos c47] at H;have c47b0 : decide (a0_6 ≤ 1) = true := decide_eq_true c47;clear c47;obtain ⟨t105,A480,H⟩ := bE H;have A48 := aS A480;clear A480;obtain rfl := Option.some.inj H;obtain ⟨Z49_0,Z49_1,Z49_2,Z49_3,Z49_4,Z49_5,Z49_6⟩ := cz7 BK101.out;obtain ⟨Y49_0,Y49_1,Y49_2,Y49_3,Y49_4,Y49_5,Y49_6⟩ := fz7 BK101.out;go_wp2_with (first | (go_at_call 129;(with_reducible refine (impl_isPlain.calls a0_3 t105 _ A48.out).mono ?_);rintro e w' ⟨rfl,⟨nd,rfl⟩⟩));go_ret;exact ⟨oE,oL⟩
             · rw [if_neg c47] at H;have c47b0 : decide (a0_6 ≤ 1) = false := decide_eq_false c47;clear c47;obtain rfl := Option.some.inj H;obtain ⟨Z50_0,Z50_1,Z50_2,Z50_3,Z50_4,Z50_5,Z50_6⟩ := cz7 BK101.out;obtain ⟨Y50_0,Y50_1,Y50_2,Y50_3,Y50_4,Y50_5,Y50_6⟩ := fz7 BK101.out;go_wp2;go_ret;exact ⟨oE,oL⟩
            · rw [if_neg c46] at H;obtain ⟨c46b0,c46b1⟩ := eF c46;obtain rfl := Option.some.inj H;obtain ⟨Z51_0,Z51_1,Z51_2,Z51_3,Z51_4,Z51_5,Z51_6⟩ := cz7 BK101.out;obtain ⟨Y51_0,Y51_1,Y51_2,Y51_3,Y51_4,Y51_5,Y51_6⟩ := fz7 BK101.out;go_wp2;go_ret;exact ⟨oE,oL⟩
           ·
            rw [if_neg c45] at H;have c45b0 : (a0_1 == 2) = false := by simpa using c45
            (try (have c45b1 : decide (a0_1 = 2) = false := by simpa using c45));(try (have c45b2 : (a0_1 == 2) = false := by simpa using c45));(try (have c45b3 : ¬ (a0_1 = 2) := by simpa using c45));clear c45;obtain rfl := Option.some.inj H;go_wp2;go_ret;exact ⟨oE,oL⟩
          ·
           rw [if_neg c44] at H;obtain ⟨c44b0,c44b1⟩ := eF c44;by_cases c52 : a0_0 = 15
           ·
            rw [if_pos c52] at H;obtain ⟨c52b0,c52b1⟩ := eT c52;clear c52;obtain ⟨t106,A530,H⟩ := bE H;have A53 := aS A530;clear A530;obtain rfl := Option.some.inj H;obtain ⟨Z54_0,Z54_1,Z54_2,Z54_3,Z54_4,Z54_5,Z54_6⟩ := cz7 BK101.out;obtain ⟨Y54_0,Y54_1,Y54_2,Y54_3,Y54_4,Y54_5,Y54_6⟩ := fz7 BK101.out;go_wp2_with (first | ((with_reducible refine gate_callee (f := 130) rfl ?_);refine goesL_ (some 110) rfl rfl Try.func130 (by kernel_rfl) rfl #[.agg #[.int .i64 a0_0,.int .i64 a0_1,.int .i64 a0_2,.int .i64 a0_3,.int .i64 a0_4,.int .i64 a0_5,.int .i64 a0_6]] rfl (by (try simp only [List.map_toArray,List.map_cons,List.map_nil]);first | done | rfl | (simp only [List.length_drop,List.length_take];rfl)) ?_;(with_reducible refine (impl_isFlow.calls kj1 a0_0 a0_1 a0_2 a0_3 a0_4 a0_5 a0_6 t106 _ A53.out).mono ?_);rintro e w55 ⟨rfl,hb⟩;refine ⟨_,rfl,?_⟩;have n0_ := aS (blk_below (oB BK101.out) hb);have n1_ := aS (below_step oL hb);clear BK101;clear HB;have BK101 := n0_;have HB := n1_;clear n0_ n1_;(try clear hb);(try clear hb2);(try clear hk);(try clear hi)));go_ret;exact ⟨oE,oL⟩
           ·
            rw [if_neg c52] at H;obtain ⟨c52b0,c52b1⟩ := eF c52;have HC56 := aS H;clear H;go_upto_if 111 with (fail);go_cut [111] (fun v111 wc => ∃ (kq : Nat) (x111_55 : Bool),v111 = .bool x111_55 ∧ Aside0 (impl_isKind.j1 kq a0_3 (a0_1 == 2) a0_0 x111_55 a0_0 a0_1 a0_2 a0_3 a0_4 a0_5 a0_6 = some r) ∧ Aside0 (kq ≤ kj1) ∧ Aside0 (wc.heap[gb101]? = some (.cells #[.int .i64 a0_0,.int .i64 a0_1,.int .i64 a0_2,.int .i64 a0_3,.int .i64 a0_4,.int .i64 a0_5,.int .i64 a0_6] 77 (0,0))) ∧ Aside0 (Below w.heap.size w wc))
            case first =>
             have H := HC56.out;clear HC56;by_cases c57 : a0_0 = 16;{rw [if_pos c57] at H;obtain ⟨c57b0,c57b1⟩ := eT c57;clear c57;(first | rw [c57b0] | (simp only [i64_w,i32_w];rw [c57b0]) | skip);have H' := aS H;clear H;go_wp2;go_meet;case rel => exact ⟨_,((a0_0 == 16)),oE,H',⟨by have := HJ1.out;first | omega | exact Nat.le_refl _⟩,⟨oB BK101.out⟩,⟨oL⟩⟩};{rw [if_neg c57] at H;obtain ⟨c57b0,c57b1⟩ := eF c57;(first | rw [c57b0] | (simp only [i64_w,i32_w];rw [c57b0]) | skip);have H' := aS H;clear H;go_wp2;go_meet;case rel => exact ⟨_,((a0_0 == 17)),oE,H',⟨by have := HJ1.out;first | omega | exact Nat.le_refl _⟩,⟨oB BK101.out⟩,⟨oL⟩⟩}
            case rest =>
             clear HC56;(try clear c1);(try clear c2);(try clear p2);(try clear c3);(try clear c4);(try clear c5);(try clear c9);(try clear c9b0);(try clear c9b1);(try clear c10);(try clear c10b0);(try clear c10b1);(try clear c11);(try clear c12);(try clear c12b0);(try clear c12b1);(try clear c13);(try clear c13b0);(try clear c13b1);(try clear c17);(try clear c17b0);(try clear c17b1);(try clear c18);(try clear c18b0);(try clear c18b1);(try clear c22);(try clear c22b0);(try clear c22b1);(try clear c23);(try clear c23b0);(try clear c23b1);(try clear c23b2);(try clear c25);(try clear c25b0);(try clear c25b1);(try clear c26);(try clear c26b0);(try clear c26b1);(try clear c26b2);(try clear c27);(try clear c27b0);(try clear c27b1);(try clear c31);(try clear c31b0);(try clear c31b1);(try clear c32);(try clear c32b0);(try clear c32b1);(try clear c33);(try clear c33b0);(try clear c38);(try clear c38b0);(try clear c38b1);(try clear c39);(try clear c39b0);(try clear c39b1);(try clear c40);(try clear c40b0);(try clear c40b1);(try clear c40b2);(try clear c41);(try clear c41b0);(try clear c44);(try clear c44b0);(try clear c44b1);(try clear c45);(try clear c45b0);(try clear c45b1);(try clear c45b2);(try clear c46);(try clear c46b0);(try clear c46b1);(try clear c47);(try clear c47b0);(try clear c52);(try clear c52b0);(try clear c52b1);(try clear c57);(try clear c57b0);(try clear c57b1);(try clear Z14_0 Z14_1 Z14_2 Z14_3 Z14_4 Z14_5 Z14_6);(try clear Z15_0 Z15_1 Z15_2 Z15_3 Z15_4 Z15_5 Z15_6);(try clear Z16_0 Z16_1 Z16_2 Z16_3 Z16_4 Z16_5 Z16_6);(try clear Z20_0 Z20_1 Z20_2 Z20_3 Z20_4 Z20_5 Z20_6);(try clear Z21_0 Z21_1 Z21_2 Z21_3 Z21_4 Z21_5 Z21_6);(try clear Z24_0 Z24_1 Z24_2 Z24_3 Z24_4 Z24_5 Z24_6);(try clear Z29_0 Z29_1 Z29_2 Z29_3 Z29_4 Z29_5 Z29_6);(try clear Z30_0 Z30_1 Z30_2 Z30_3 Z30_4 Z30_5 Z30_6);(try clear Z35_0 Z35_1 Z35_2 Z35_3 Z35_4 Z35_5 Z35_6);(try clear Z36_0 Z36_1 Z36_2 Z36_3 Z36_4 Z36_5 Z36_6);(try clear Z37_0 Z37_1 Z37_2 Z37_3 Z37_4 Z37_5 Z37_6);(try clear Z42_0 Z42_1 Z42_2 Z42_3 Z42_4 Z42_5 Z42_6);(try clear Z43_0 Z43_1 Z43_2 Z43_3 Z43_4 Z43_5 Z43_6);(try clear Z49_0 Z49_1 Z49_2 Z49_3 Z49_4 Z49_5 Z49_6);(try clear Z4_0 Z4_1 Z4_2 Z4_3 Z4_4 Z4_5 Z4_6);(try clear Z50_0 Z50_1 Z50_2 Z50_3 Z50_4 Z50_5 Z50_6);(try clear Z51_0 Z51_1 Z51_2 Z51_3 Z51_4 Z51_5 Z51_6);(try clear Z54_0 Z54_1 Z54_2 Z54_3 Z54_4 Z54_5 Z54_6);(try clear Y14_0 Y14_1 Y14_2 Y14_3 Y14_4 Y14_5 Y14_6);(try clear Y15_0 Y15_1 Y15_2 Y15_3 Y15_4 Y15_5 Y15_6);(try clear Y16_0 Y16_1 Y16_2 Y16_3 Y16_4 Y16_5 Y16_6);(try clear Y20_0 Y20_1 Y20_2 Y20_3 Y20_4 Y20_5 Y20_6);(try clear Y21_0 Y21_1 Y21_2 Y21_3 Y21_4 Y21_5 Y21_6);(try clear Y24_0 Y24_1 Y24_2 Y24_3 Y24_4 Y24_5 Y24_6);(try clear Y29_0 Y29_1 Y29_2 Y29_3 Y29_4 Y29_5 Y29_6);(try clear Y30_0 Y30_1 Y30_2 Y30_3 Y30_4 Y30_5 Y30_6);(try clear Y35_0 Y35_1 Y35_2 Y35_3 Y35_4 Y35_5 Y35_6);(try clear Y36_0 Y36_1 Y36_2 Y36_3 Y36_4 Y36_5 Y36_6);(try clear Y37_0 Y37_1 Y37_2 Y37_3 Y37_4 Y37_5 Y37_6);(try clear Y42_0 Y42_1 Y42_2 Y42_3 Y42_4 Y42_5 Y42_6);(try clear Y43_0 Y43_1 Y43_2 Y43_3 Y43_4 Y43_5 Y43_6);(try clear Y49_0 Y49_1 Y49_2 Y49_3 Y49_4 Y49_5 Y49_6);(try clear Y4_0 Y4_1 Y4_2 Y4_3 Y4_4 Y4_5 Y4_6);(try clear Y50_0 Y50_1 Y50_2 Y50_3 Y50_4 Y50_5 Y50_6);(try clear Y51_0 Y51_1 Y51_2 Y51_3 Y51_4 Y51_5 Y51_6);(try clear Y54_0 Y54_1 Y54_2 Y54_3 Y54_4 Y54_5 Y54_6);obtain ⟨kq,x111_55,rfl,HA,HJ55,BK101,HB⟩ := hcut
             cases kq with
             | zero => exact absurd HA.out (by simp [impl_isKind.j1])
             | succ kj55 =>
              have H := HA.out;clear HA;simp only [impl_isKind.j1] at H;by_cases c58 : x111_55 = true
              ·
               subst c58;replace H := iT H;by_cases c59 : (a0_1 == 2) = true
               ·
                rw [if_pos c59] at H;have c59b0 : (a0_1 == 2) = true := c59;(try (have c59b1 : decide (a0_1 = 2) = true := by simpa using c59));(try (have c59b2 : (a0_1 == 2) = true := by simpa using c59));clear c59;by_cases c60 : a0_6 = 0;{rw [if_pos c60] at H;obtain ⟨c60b0,c60b1⟩ := eT c60;clear c60;obtain rfl := Option.some.inj H;obtain ⟨Z61_0,Z61_1,Z61_2,Z61_3,Z61_4,Z61_5,Z61_6⟩ := cz7 BK101.out;obtain ⟨Y61_0,Y61_1,Y61_2,Y61_3,Y61_4,Y61_5,Y61_6⟩ := fz7 BK101.out;go_wp2;go_ret;exact ⟨oE,oL⟩};{rw [if_neg c60] at H;obtain ⟨c60b0,c60b1⟩ := eF c60;obtain rfl := Option.some.inj H;obtain ⟨Z62_0,Z62_1,Z62_2,Z62_3,Z62_4,Z62_5,Z62_6⟩ := cz7 BK101.out;obtain ⟨Y62_0,Y62_1,Y62_2,Y62_3,Y62_4,Y62_5,Y62_6⟩ := fz7 BK101.out;go_wp2;go_ret;exact ⟨oE,oL⟩}
               ·
                rw [if_neg c59] at H;have c59b0 : (a0_1 == 2) = false := by simpa using c59
                (try (have c59b1 : decide (a0_1 = 2) = false := by simpa using c59));(try (have c59b2 : (a0_1 == 2) = false := by simpa using c59));(try (have c59b3 : ¬ (a0_1 = 2) := by simpa using c59));clear c59;obtain rfl := Option.some.inj H;go_wp2;go_ret;exact ⟨oE,oL⟩
              ·
               replace c58 := Bool.eq_false_iff.mpr c58;subst c58;replace H := iF H;by_cases c63 : a0_0 = 18
               ·
                rw [if_pos c63] at H;obtain ⟨c63b0,c63b1⟩ := eT c63;clear c63;by_cases c64 : (a0_1 == 2) = true;{rw [if_pos c64] at H;have c64b0 : (a0_1 == 2) = true := c64;(try (have c64b1 : decide (a0_1 = 2) = true := by simpa using c64));(try (have c64b2 : (a0_1 == 2) = true := by simpa using c64));clear c64;obtain rfl := Option.some.inj H;go_wp2;go_ret;exact ⟨oE,oL⟩}
                ·
                 rw [if_neg c64] at H;have c64b0 : (a0_1 == 2) = false := by simpa using c64
                 (try (have c64b1 : decide (a0_1 = 2) = false := by simpa using c64));(try (have c64b2 : (a0_1 == 2) = false := by simpa using c64));(try (have c64b3 : ¬ (a0_1 = 2) := by simpa using c64));clear c64;by_cases c65 : a0_6 ≤ 1;{rw [if_pos c65] at H;have c65b0 : decide (a0_6 ≤ 1) = true := decide_eq_true c65;clear c65;obtain rfl := Option.some.inj H;obtain ⟨Z66_0,Z66_1,Z66_2,Z66_3,Z66_4,Z66_5,Z66_6⟩ := cz7 BK101.out;obtain ⟨Y66_0,Y66_1,Y66_2,Y66_3,Y66_4,Y66_5,Y66_6⟩ := fz7 BK101.out;go_wp2;go_ret;exact ⟨oE,oL⟩};{rw [if_neg c65] at H;have c65b0 : decide (a0_6 ≤ 1) = false := decide_eq_false c65;clear c65;obtain rfl := Option.some.inj H;obtain ⟨Z67_0,Z67_1,Z67_2,Z67_3,Z67_4,Z67_5,Z67_6⟩ := cz7 BK101.out;obtain ⟨Y67_0,Y67_1,Y67_2,Y67_3,Y67_4,Y67_5,Y67_6⟩ := fz7 BK101.out;go_wp2;go_ret;exact ⟨oE,oL⟩}
               ·
                rw [if_neg c63] at H;obtain ⟨c63b0,c63b1⟩ := eF c63;by_cases c68 : a0_0 = 19
                ·
                 rw [if_pos c68] at H;obtain ⟨c68b0,c68b1⟩ := eT c68;clear c68;by_cases c69 : (a0_1 == 2) = true
                 ·
                  rw [if_pos c69] at H;have c69b0 : (a0_1 == 2) = true := c69;(try (have c69b1 : decide (a0_1 = 2) = true := by simpa using c69));(try (have c69b2 : (a0_1 == 2) = true := by simpa using c69));clear c69;by_cases c70 : a0_6 = 0
                  ·
                   rw [if_pos c70] at H;obtain ⟨c70b0,c70b1⟩ := eT c70;clear c70;by_cases c71 : a0_2 = 0
                   ·
                    rw [if_pos c71] at H;obtain ⟨c71b0,c71b1⟩ := eT c71;clear c71;obtain ⟨t107,A720,H⟩ := bE H;have A72 := aS A720;clear A720;by_cases c73 : t107 = true
                    ·
                     subst c73;replace H := iT H;obtain rfl := Option.some.inj H;obtain ⟨Z74_0,Z74_1,Z74_2,Z74_3,Z74_4,Z74_5,Z74_6⟩ := cz7 BK101.out;obtain ⟨Y74_0,Y74_1,Y74_2,Y74_3,Y74_4,Y74_5,Y74_6⟩ := fz7 BK101.out;go_wp2_with (first | (go_at_call 131;(with_reducible refine (impl_isNow.calls a0_3 a0_4 a0_5 true _ A72.out).mono ?_);rintro e w75 ⟨rfl,hb⟩;have n0_ := aS (blk_below (oB BK101.out) hb);have n1_ := aS (below_step oL hb);clear BK101;clear HB;have BK101 := n0_;have HB := n1_;clear n0_ n1_;(try clear hb);(try clear hb2);(try clear hk);(try clear hi)));go_ret;exact ⟨oE,oL⟩
                    ·
                     replace c73 := Bool.eq_false_iff.mpr c73;subst c73;replace H := iF H;by_cases c76 : a0_6 = 1
                     ·
                      rw [if_pos c76] at H;obtain ⟨c76b0,c76b1⟩ := eT c76;clear c76;obtain rfl := Option.some.inj H;obtain ⟨Z77_0,Z77_1,Z77_2,Z77_3,Z77_4,Z77_5,Z77_6⟩ := cz7 BK101.out;obtain ⟨Y77_0,Y77_1,Y77_2,Y77_3,Y77_4,Y77_5,Y77_6⟩ := fz7 BK101.out;go_wp2_with (first | (go_at_call 131;(with_reducible refine (impl_isNow.calls a0_3 a0_4 a0_5 false _ A72.out).mono ?_);rintro e w78 ⟨rfl,hb⟩;have n0_ := aS (blk_below (oB BK101.out) hb);have n1_ := aS (below_step oL hb);clear BK101;clear HB;have BK101 := n0_;have HB := n1_;clear n0_ n1_;(try clear hb);(try clear hb2);(try clear hk);(try clear hi);obtain ⟨Z79_0,Z79_1,Z79_2,Z79_3,Z79_4,Z79_5,Z79_6⟩ := cz7 BK101.out;obtain ⟨Y79_0,Y79_1,Y79_2,Y79_3,Y79_4,Y79_5,Y79_6⟩ := fz7 BK101.out));go_ret;exact ⟨oE,oL⟩
                     ·
                      rw [if_neg c76] at H;obtain ⟨c76b0,c76b1⟩ := eF c76;obtain rfl := Option.some.inj H;obtain ⟨Z80_0,Z80_1,Z80_2,Z80_3,Z80_4,Z80_5,Z80_6⟩ := cz7 BK101.out;obtain ⟨Y80_0,Y80_1,Y80_2,Y80_3,Y80_4,Y80_5,Y80_6⟩ := fz7 BK101.out;go_wp2_with (first | (go_at_call 131;(with_reducible refine (impl_isNow.calls a0_3 a0_4 a0_5 false _ A72.out).mono ?_);rintro e w81 ⟨rfl,hb⟩;have n0_ := aS (blk_below (oB BK101.out) hb);have n1_ := aS (below_step oL hb);clear BK101;clear HB;have BK101 := n0_;have HB := n1_;clear n0_ n1_;(try clear hb);(try clear hb2);(try clear hk);(try clear hi);obtain ⟨Z82_0,Z82_1,Z82_2,Z82_3,Z82_4,Z82_5,Z82_6⟩ := cz7 BK101.out;obtain ⟨Y82_0,Y82_1,Y82_2,Y82_3,Y82_4,Y82_5,Y82_6⟩ := fz7 BK101.out));go_ret;exact ⟨oE,oL⟩
                   ·
                    rw [if_neg c71] at H;obtain ⟨c71b0,c71b1⟩ := eF c71;by_cases c83 : a0_6 = 1;{rw [if_pos c83] at H;obtain ⟨c83b0,c83b1⟩ := eT c83;clear c83;obtain rfl := Option.some.inj H;obtain ⟨Z84_0,Z84_1,Z84_2,Z84_3,Z84_4,Z84_5,Z84_6⟩ := cz7 BK101.out;obtain ⟨Y84_0,Y84_1,Y84_2,Y84_3,Y84_4,Y84_5,Y84_6⟩ := fz7 BK101.out;go_wp2;go_ret;exact ⟨oE,oL⟩};{rw [if_neg c83] at H;obtain ⟨c83b0,c83b1⟩ := eF c83;obtain rfl := Option.some.inj H;obtain ⟨Z85_0,Z85_1,Z85_2,Z85_3,Z85_4,Z85_5,Z85_6⟩ := cz7 BK101.out;obtain ⟨Y85_0,Y85_1,Y85_2,Y85_3,Y85_4,Y85_5,Y85_6⟩ := fz7 BK101.out;go_wp2;go_ret;exact ⟨oE,oL⟩}
                  ·
                   rw [if_neg c70] at H;obtain ⟨c70b0,c70b1⟩ := eF c70;by_cases c86 : a0_6 = 1;{rw [if_pos c86] at H;obtain ⟨c86b0,c86b1⟩ := eT c86;clear c86;obtain rfl := Option.some.inj H;obtain ⟨Z87_0,Z87_1,Z87_2,Z87_3,Z87_4,Z87_5,Z87_6⟩ := cz7 BK101.out;obtain ⟨Y87_0,Y87_1,Y87_2,Y87_3,Y87_4,Y87_5,Y87_6⟩ := fz7 BK101.out;go_wp2;go_ret;exact ⟨oE,oL⟩};{rw [if_neg c86] at H;obtain ⟨c86b0,c86b1⟩ := eF c86;obtain rfl := Option.some.inj H;obtain ⟨Z88_0,Z88_1,Z88_2,Z88_3,Z88_4,Z88_5,Z88_6⟩ := cz7 BK101.out;obtain ⟨Y88_0,Y88_1,Y88_2,Y88_3,Y88_4,Y88_5,Y88_6⟩ := fz7 BK101.out;go_wp2;go_ret;exact ⟨oE,oL⟩}
                 ·
                  rw [if_neg c69] at H;have c69b0 : (a0_1 == 2) = false := by simpa using c69
                  (try (have c69b1 : decide (a0_1 = 2) = false := by simpa using c69));(try (have c69b2 : (a0_1 == 2) = false := by simpa using c69));(try (have c69b3 : ¬ (a0_1 = 2) := by simpa using c69));clear c69;obtain rfl := Option.some.inj H;go_wp2;go_ret;exact ⟨oE,oL⟩
                · rw [if_neg c68] at H;obtain ⟨c68b0,c68b1⟩ := eF c68;obtain rfl := Option.some.inj H;go_wp2;go_ret;exact ⟨oE,oL⟩

/-! ### impl_GoodIns: function 59 -/
def impl_GoodIns.f (k : Nat) (a0_0 : Int) (a0_1 : Int) (a0_2 : Int) (a0_3 : Int) (a0_4 : Int) (a0_5 : Int) (a0_6 : Int) : Option (Bool) := (impl_isSize.f a0_1).bind fun t102 => (if t102 = true then ((impl_within.f a0_2 0 3).bind fun t103 => (if t103 = true then ((impl_within.f a0_6 0 7).bind fun t104 => (if t104 = true then ((impl_GoodOperand.f a0_3 a0_4 a0_5).bind fun t105 => (if t105 = true then (if a0_3 = 7 then (if a0_1 = 1 then (if a0_5 > 255 then (some false) else ((impl_isKind.f k a0_0 a0_1 a0_2 a0_3 a0_4 a0_5 a0_6).bind fun t106 => (some t106))) else ((impl_isKind.f k a0_0 a0_1 a0_2 a0_3 a0_4 a0_5 a0_6).bind fun t107 => (some t107))) else ((impl_isKind.f k a0_0 a0_1 a0_2 a0_3 a0_4 a0_5 a0_6).bind fun t108 => (some t108))) else (some false))) else (some false))) else (some false))) else (some false))
theorem impl_GoodIns.mono : ∀ a0 a1 a2 a3 a4 a5 a6 k,LeO (impl_GoodIns.f k a0 a1 a2 a3 a4 a5 a6) (impl_GoodIns.f (k + 1) a0 a1 a2 a3 a4 a5 a6) := by
 intro a0 a1 a2 a3 a4 a5 a6 k
 unfold impl_GoodIns.f
 repeat' first
   | (with_reducible exact impl_isKind.mono _ _ _ _ _ _ _ _)
   | (with_reducible exact LeO.refl _)
   | (with_reducible exact LeO.none _)
   | (with_reducible refine LeO.ite ?_ ?_)
   | (with_reducible refine LeO.bind ?_ (fun _ => ?_))
   | exact impl_isKind.mono _ _ _ _ _ _ _ _
   | exact LeO.none _
   | refine LeO.ite ?_ ?_
   | refine LeO.bind ?_ (fun _ => ?_)
set_option maxHeartbeats 8000000 in
set_option maxRecDepth 100000 in
theorem impl_GoodIns.calls (k : Nat) (a0_0 : Int) (a0_1 : Int) (a0_2 : Int) (a0_3 : Int) (a0_4 : Int) (a0_5 : Int) (a0_6 : Int) (r : Bool) (w : World) (h : impl_GoodIns.f k a0_0 a0_1 a0_2 a0_3 a0_4 a0_5 a0_6 = some r) :
  Calls Try.prog 59 #[.agg #[.int .i64 a0_0,.int .i64 a0_1,.int .i64 a0_2,.int .i64 a0_3,.int .i64 a0_4,.int .i64 a0_5,.int .i64 a0_6]] w fun e w' => e = .returned (.bool r) ∧ Below w.heap.size w w' := by
 have hu77 := Try.underlying77;have hu75 := Try.underlying75;have HB := aS (Below.refl w.heap.size w);have H : ((impl_isSize.f a0_1).bind fun t102 => (if t102 = true then ((impl_within.f a0_2 0 3).bind fun t103 => (if t103 = true then ((impl_within.f a0_6 0 7).bind fun t104 => (if t104 = true then ((impl_GoodOperand.f a0_3 a0_4 a0_5).bind fun t105 => (if t105 = true then (if a0_3 = 7 then (if a0_1 = 1 then (if a0_5 > 255 then (some false) else ((impl_isKind.f k a0_0 a0_1 a0_2 a0_3 a0_4 a0_5 a0_6).bind fun t106 => (some t106))) else ((impl_isKind.f k a0_0 a0_1 a0_2 a0_3 a0_4 a0_5 a0_6).bind fun t107 => (some t107))) else ((impl_isKind.f k a0_0 a0_1 a0_2 a0_3 a0_4 a0_5 a0_6).bind fun t108 => (some t108))) else (some false))) else (some false))) else (some false))) else (some false))) = some r := h;clear h;obtain ⟨t102,A20,H⟩ := bE H;have A2 := aS A20;clear A20;by_cases c3 : t102 = true
 ·
  subst c3;replace H := iT H;obtain ⟨t103,A40,H⟩ := bE H;have A4 := aS A40;clear A40;by_cases c5 : t103 = true
  ·
   subst c5;replace H := iT H;obtain ⟨t104,A60,H⟩ := bE H;have A6 := aS A60;clear A60;by_cases c7 : t104 = true
   ·
    subst c7;replace H := iT H;obtain ⟨t105,A80,H⟩ := bE H;have A8 := aS A80;clear A80;by_cases c9 : t105 = true
    ·
     subst c9;replace H := iT H;by_cases c10 : a0_3 = 7
     ·
      rw [if_pos c10] at H;obtain ⟨c10b0,c10b1⟩ := eT c10;clear c10;by_cases c11 : a0_1 = 1
      ·
       rw [if_pos c11] at H;obtain ⟨c11b0,c11b1⟩ := eT c11;clear c11;by_cases c12 : a0_5 > 255
       ·
        rw [if_pos c12] at H;have c12b0 : decide (255 < a0_5) = true := decide_eq_true c12;clear c12;obtain rfl := Option.some.inj H;go_enter Try.func59,Try.ntmps59;go_wp2_with (first | ((with_reducible refine gate_dst (N := 1) rfl ?_);refine boxE (w := w) oL (cs := #[.int .i64 a0_0,.int .i64 a0_1,.int .i64 a0_2,.int .i64 a0_3,.int .i64 a0_4,.int .i64 a0_5,.int .i64 a0_6]) (t := 77) ?_;clear HB;intro gb101 w13 HB BK101 GW101;have GE101 := GW101;obtain ⟨Z14_0,Z14_1,Z14_2,Z14_3,Z14_4,Z14_5,Z14_6⟩ := cz7 BK101.out;obtain ⟨Y14_0,Y14_1,Y14_2,Y14_3,Y14_4,Y14_5,Y14_6⟩ := fz7 BK101.out) | ((with_reducible refine gate_callee (f := 69) rfl ?_);refine goesQ (some 5) Try.func69 #[.int .i64 a0_1] (impl_isSize.calls a0_1 true _ A2.out) fun nd => ?_) | (go_at_call 58;(with_reducible refine (impl_within.calls a0_2 0 3 true _ A4.out).mono ?_);rintro e w' ⟨rfl,⟨nd,rfl⟩⟩) | (go_at_call 58;(with_reducible refine (impl_within.calls a0_6 0 7 true _ A6.out).mono ?_);rintro e w' ⟨rfl,⟨nd,rfl⟩⟩) | (go_at_call 108;(with_reducible refine (impl_GoodOperand.calls a0_3 a0_4 a0_5 true _ A8.out).mono ?_);rintro e w15 ⟨rfl,hb⟩;have n0_ := aS (blk_below (oB BK101.out) hb);have n1_ := aS (below_step oL hb);clear BK101;clear HB;have BK101 := n0_;have HB := n1_;clear n0_ n1_;(try clear hb);(try clear hb2);(try clear hk);(try clear hi);obtain ⟨Z16_0,Z16_1,Z16_2,Z16_3,Z16_4,Z16_5,Z16_6⟩ := cz7 BK101.out;obtain ⟨Y16_0,Y16_1,Y16_2,Y16_3,Y16_4,Y16_5,Y16_6⟩ := fz7 BK101.out));go_ret;exact ⟨oE,oL⟩
       ·
        rw [if_neg c12] at H;have c12b0 : decide (255 < a0_5) = false := decide_eq_false c12;clear c12;obtain ⟨t106,A170,H⟩ := bE H;have A17 := aS A170;clear A170;obtain rfl := Option.some.inj H;go_enter Try.func59,Try.ntmps59;go_wp2_with (first | ((with_reducible refine gate_dst (N := 1) rfl ?_);refine boxE (w := w) oL (cs := #[.int .i64 a0_0,.int .i64 a0_1,.int .i64 a0_2,.int .i64 a0_3,.int .i64 a0_4,.int .i64 a0_5,.int .i64 a0_6]) (t := 77) ?_;clear HB;intro gb101 w18 HB BK101 GW101;have GE101 := GW101;obtain ⟨Z19_0,Z19_1,Z19_2,Z19_3,Z19_4,Z19_5,Z19_6⟩ := cz7 BK101.out;obtain ⟨Y19_0,Y19_1,Y19_2,Y19_3,Y19_4,Y19_5,Y19_6⟩ := fz7 BK101.out) | ((with_reducible refine gate_callee (f := 69) rfl ?_);refine goesQ (some 5) Try.func69 #[.int .i64 a0_1] (impl_isSize.calls a0_1 true _ A2.out) fun nd => ?_) | (go_at_call 58;(with_reducible refine (impl_within.calls a0_2 0 3 true _ A4.out).mono ?_);rintro e w' ⟨rfl,⟨nd,rfl⟩⟩) | (go_at_call 58;(with_reducible refine (impl_within.calls a0_6 0 7 true _ A6.out).mono ?_);rintro e w' ⟨rfl,⟨nd,rfl⟩⟩) | (go_at_call 108;(with_reducible refine (impl_GoodOperand.calls a0_3 a0_4 a0_5 true _ A8.out).mono ?_);rintro e w20 ⟨rfl,hb⟩;have n0_ := aS (blk_below (oB BK101.out) hb);have n1_ := aS (below_step oL hb);clear BK101;clear HB;have BK101 := n0_;have HB := n1_;clear n0_ n1_;(try clear hb);(try clear hb2);(try clear hk);(try clear hi);obtain ⟨Z21_0,Z21_1,Z21_2,Z21_3,Z21_4,Z21_5,Z21_6⟩ := cz7 BK101.out;obtain ⟨Y21_0,Y21_1,Y21_2,Y21_3,Y21_4,Y21_5,Y21_6⟩ := fz7 BK101.out) | (go_at_call 109;(with_reducible refine (impl_isKind.calls k a0_0 a0_1 a0_2 a0_3 a0_4 a0_5 a0_6 t106 _ A17.out).mono ?_);rintro e w22 ⟨rfl,hb⟩;have n0_ := aS (blk_below (oB BK101.out) hb);have n1_ := aS (below_step oL hb);clear BK101;clear HB;have BK101 := n0_;have HB := n1_;clear n0_ n1_;(try clear hb);(try clear hb2);(try clear hk);(try clear hi)));go_ret;exact ⟨oE,oL⟩
      ·
       rw [if_neg c11] at H;obtain ⟨c11b0,c11b1⟩ := eF c11;obtain ⟨t107,A230,H⟩ := bE H;have A23 := aS A230;clear A230;obtain rfl := Option.some.inj H;go_enter Try.func59,Try.ntmps59;go_wp2_with (first | ((with_reducible refine gate_dst (N := 1) rfl ?_);refine boxE (w := w) oL (cs := #[.int .i64 a0_0,.int .i64 a0_1,.int .i64 a0_2,.int .i64 a0_3,.int .i64 a0_4,.int .i64 a0_5,.int .i64 a0_6]) (t := 77) ?_;clear HB;intro gb101 w24 HB BK101 GW101;have GE101 := GW101;obtain ⟨Z25_0,Z25_1,Z25_2,Z25_3,Z25_4,Z25_5,Z25_6⟩ := cz7 BK101.out;obtain ⟨Y25_0,Y25_1,Y25_2,Y25_3,Y25_4,Y25_5,Y25_6⟩ := fz7 BK101.out) | ((with_reducible refine gate_callee (f := 69) rfl ?_);refine goesQ (some 5) Try.func69 #[.int .i64 a0_1] (impl_isSize.calls a0_1 true _ A2.out) fun nd => ?_) | (go_at_call 58;(with_reducible refine (impl_within.calls a0_2 0 3 true _ A4.out).mono ?_);rintro e w' ⟨rfl,⟨nd,rfl⟩⟩) | (go_at_call 58;(with_reducible refine (impl_within.calls a0_6 0 7 true _ A6.out).mono ?_);rintro e w' ⟨rfl,⟨nd,rfl⟩⟩) | (go_at_call 108;(with_reducible refine (impl_GoodOperand.calls a0_3 a0_4 a0_5 true _ A8.out).mono ?_);rintro e w26 ⟨rfl,hb⟩;have n0_ := aS (blk_below (oB BK101.out) hb);have n1_ := aS (below_step oL hb);clear BK101;clear HB;have BK101 := n0_;have HB := n1_;clear n0_ n1_;(try clear hb);(try clear hb2);(try clear hk);(try clear hi);obtain ⟨Z27_0,Z27_1,Z27_2,Z27_3,Z27_4,Z27_5,Z27_6⟩ := cz7 BK101.out;obtain ⟨Y27_0,Y27_1,Y27_2,Y27_3,Y27_4,Y27_5,Y27_6⟩ := fz7 BK101.out) | (go_at_call 109;(with_reducible refine (impl_isKind.calls k a0_0 a0_1 a0_2 a0_3 a0_4 a0_5 a0_6 t107 _ A23.out).mono ?_);rintro e w28 ⟨rfl,hb⟩;have n0_ := aS (blk_below (oB BK101.out) hb);have n1_ := aS (below_step oL hb);clear BK101;clear HB;have BK101 := n0_;have HB := n1_;clear n0_ n1_;(try clear hb);(try clear hb2);(try clear hk);(try clear hi)));go_ret;exact ⟨oE,oL⟩
     ·
      rw [if_neg c10] at H;obtain ⟨c10b0,c10b1⟩ := eF c10;obtain ⟨t108,A290,H⟩ := bE H;have A29 := aS A290;clear A290;obtain rfl := Option.some.inj H;go_enter Try.func59,Try.ntmps59;go_wp2_with (first | ((with_reducible refine gate_dst (N := 1) rfl ?_);refine boxE (w := w) oL (cs := #[.int .i64 a0_0,.int .i64 a0_1,.int .i64 a0_2,.int .i64 a0_3,.int .i64 a0_4,.int .i64 a0_5,.int .i64 a0_6]) (t := 77) ?_;clear HB;intro gb101 w30 HB BK101 GW101;have GE101 := GW101;obtain ⟨Z31_0,Z31_1,Z31_2,Z31_3,Z31_4,Z31_5,Z31_6⟩ := cz7 BK101.out;obtain ⟨Y31_0,Y31_1,Y31_2,Y31_3,Y31_4,Y31_5,Y31_6⟩ := fz7 BK101.out) | ((with_reducible refine gate_callee (f := 69) rfl ?_);refine goesQ (some 5) Try.func69 #[.int .i64 a0_1] (impl_isSize.calls a0_1 true _ A2.out) fun nd => ?_) | (go_at_call 58;(with_reducible refine (impl_within.calls a0_2 0 3 true _ A4.out).mono ?_);rintro e w' ⟨rfl,⟨nd,rfl⟩⟩) | (go_at_call 58;(with_reducible refine (impl_within.calls a0_6 0 7 true _ A6.out).mono ?_);rintro e w' ⟨rfl,⟨nd,rfl⟩⟩) | (go_at_call 108;(with_reducible refine (impl_GoodOperand.calls a0_3 a0_4 a0_5 true _ A8.out).mono ?_);rintro e w32 ⟨rfl,hb⟩;have n0_ := aS (blk_below (oB BK101.out) hb);have n1_ := aS (below_step oL hb);clear BK101;clear HB;have BK101 := n0_;have HB := n1_;clear n0_ n1_;(try clear hb);(try clear hb2);(try clear hk);(try clear hi);obtain ⟨Z33_0,Z33_1,Z33_2,Z33_3,Z33_4,Z33_5,Z33_6⟩ := cz7 BK101.out;obtain ⟨Y33_0,Y33_1,Y33_2,Y33_3,Y33_4,Y33_5,Y33_6⟩ := fz7 BK101.out) | (go_at_call 109;(with_reducible refine (impl_isKind.calls k a0_0 a0_1 a0_2 a0_3 a0_4 a0_5 a0_6 t108 _ A29.out).mono ?_);rintro e w34 ⟨rfl,hb⟩;have n0_ := aS (blk_below (oB BK101.out) hb);have n1_ := aS (below_step oL hb);clear BK101;clear HB;have BK101 := n0_;have HB := n1_;clear n0_ n1_;(try clear hb);(try clear hb2);(try clear hk);(try clear hi)));go_ret;exact ⟨oE,oL⟩
    ·
     replace c9 := Bool.eq_false_iff.mpr c9;subst c9;replace H := iF H;obtain rfl := Option.some.inj H;go_enter Try.func59,Try.ntmps59;go_wp2_with (first | ((with_reducible refine gate_dst (N := 1) rfl ?_);refine boxE (w := w) oL (cs := #[.int .i64 a0_0,.int .i64 a0_1,.int .i64 a0_2,.int .i64 a0_3,.int .i64 a0_4,.int .i64 a0_5,.int .i64 a0_6]) (t := 77) ?_;clear HB;intro gb101 w35 HB BK101 GW101;have GE101 := GW101;obtain ⟨Z36_0,Z36_1,Z36_2,Z36_3,Z36_4,Z36_5,Z36_6⟩ := cz7 BK101.out;obtain ⟨Y36_0,Y36_1,Y36_2,Y36_3,Y36_4,Y36_5,Y36_6⟩ := fz7 BK101.out) | ((with_reducible refine gate_callee (f := 69) rfl ?_);refine goesQ (some 5) Try.func69 #[.int .i64 a0_1] (impl_isSize.calls a0_1 true _ A2.out) fun nd => ?_) | (go_at_call 58;(with_reducible refine (impl_within.calls a0_2 0 3 true _ A4.out).mono ?_);rintro e w' ⟨rfl,⟨nd,rfl⟩⟩) | (go_at_call 58;(with_reducible refine (impl_within.calls a0_6 0 7 true _ A6.out).mono ?_);rintro e w' ⟨rfl,⟨nd,rfl⟩⟩) | (go_at_call 108;(with_reducible refine (impl_GoodOperand.calls a0_3 a0_4 a0_5 false _ A8.out).mono ?_);rintro e w37 ⟨rfl,hb⟩;have n0_ := aS (blk_below (oB BK101.out) hb);have n1_ := aS (below_step oL hb);clear BK101;clear HB;have BK101 := n0_;have HB := n1_;clear n0_ n1_;(try clear hb);(try clear hb2);(try clear hk);(try clear hi)));go_ret;exact ⟨oE,oL⟩
   ·
    replace c7 := Bool.eq_false_iff.mpr c7;subst c7;replace H := iF H;obtain rfl := Option.some.inj H;go_enter Try.func59,Try.ntmps59;go_wp2_with (first | ((with_reducible refine gate_dst (N := 1) rfl ?_);refine boxE (w := w) oL (cs := #[.int .i64 a0_0,.int .i64 a0_1,.int .i64 a0_2,.int .i64 a0_3,.int .i64 a0_4,.int .i64 a0_5,.int .i64 a0_6]) (t := 77) ?_;clear HB;intro gb101 w38 HB BK101 GW101;have GE101 := GW101;obtain ⟨Z39_0,Z39_1,Z39_2,Z39_3,Z39_4,Z39_5,Z39_6⟩ := cz7 BK101.out;obtain ⟨Y39_0,Y39_1,Y39_2,Y39_3,Y39_4,Y39_5,Y39_6⟩ := fz7 BK101.out) | ((with_reducible refine gate_callee (f := 69) rfl ?_);refine goesQ (some 5) Try.func69 #[.int .i64 a0_1] (impl_isSize.calls a0_1 true _ A2.out) fun nd => ?_) | (go_at_call 58;(with_reducible refine (impl_within.calls a0_2 0 3 true _ A4.out).mono ?_);rintro e w' ⟨rfl,⟨nd,rfl⟩⟩) | (go_at_call 58;(with_reducible refine (impl_within.calls a0_6 0 7 false _ A6.out).mono ?_);rintro e w' ⟨rfl,⟨nd,rfl⟩⟩));go_ret;exact ⟨oE,oL⟩
  ·
   replace c5 := Bool.eq_false_iff.mpr c5;subst c5;replace H := iF H;obtain rfl := Option.some.inj H;go_enter Try.func59,Try.ntmps59;go_wp2_with (first | ((with_reducible refine gate_dst (N := 1) rfl ?_);refine boxE (w := w) oL (cs := #[.int .i64 a0_0,.int .i64 a0_1,.int .i64 a0_2,.int .i64 a0_3,.int .i64 a0_4,.int .i64 a0_5,.int .i64 a0_6]) (t := 77) ?_;clear HB;intro gb101 w40 HB BK101 GW101;have GE101 := GW101;obtain ⟨Z41_0,Z41_1,Z41_2,Z41_3,Z41_4,Z41_5,Z41_6⟩ := cz7 BK101.out;obtain ⟨Y41_0,Y41_1,Y41_2,Y41_3,Y41_4,Y41_5,Y41_6⟩ := fz7 BK101.out) | ((with_reducible refine gate_callee (f := 69) rfl ?_);refine goesQ (some 5) Try.func69 #[.int .i64 a0_1] (impl_isSize.calls a0_1 true _ A2.out) fun nd => ?_) | (go_at_call 58;(with_reducible refine (impl_within.calls a0_2 0 3 false _ A4.out).mono ?_);rintro e w' ⟨rfl,⟨nd,rfl⟩⟩));go_ret;exact ⟨oE,oL⟩
 ·
  replace c3 := Bool.eq_false_iff.mpr c3;subst c3;replace H := iF H;obtain rfl := Option.some.inj H;go_enter Try.func59,Try.ntmps59;go_wp2_with (first | ((with_reducible refine gate_dst (N := 1) rfl ?_);refine boxE (w := w) oL (cs := #[.int .i64 a0_0,.int .i64 a0_1,.int .i64 a0_2,.int .i64 a0_3,.int .i64 a0_4,.int .i64 a0_5,.int .i64 a0_6]) (t := 77) ?_;clear HB;intro gb101 w42 HB BK101 GW101;have GE101 := GW101;obtain ⟨Z43_0,Z43_1,Z43_2,Z43_3,Z43_4,Z43_5,Z43_6⟩ := cz7 BK101.out;obtain ⟨Y43_0,Y43_1,Y43_2,Y43_3,Y43_4,Y43_5,Y43_6⟩ := fz7 BK101.out) | ((with_reducible refine gate_callee (f := 69) rfl ?_);refine goesQ (some 5) Try.func69 #[.int .i64 a0_1] (impl_isSize.calls a0_1 false _ A2.out) fun nd => ?_));go_ret;exact ⟨oE,oL⟩

end Go.Proofs.Ytjnifnhpnccpcaa.G
