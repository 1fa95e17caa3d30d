-- Made by this session's program gprint.py out of the translation. Not trusted: Lean checks it.
import Derived.Test.YtapfngfaiojmhaaRx0
import Derived.Test.YtapfngfaiojmhaaRx1
import Derived.Test.YtapfngfaiojmhaaRx2
namespace Go.Proofs.Ytapfngfaiojmhaa.R
open Go.RowKit Go.Proofs.YtapfngfaiojmhaaW.PrintWords Go.Proofs.YtapfngfaiojmhaaW.PrintLast Go.Proofs.YtapfngfaiojmhaaW.PrintMore
attribute [local go_sem] max2_int min2_int max_two min_two max_three min_three max_four min_four   -- for this text's walks alone
set_option linter.unusedVariables false
set_option linter.unusedSimpArgs false

attribute [local go_sem high] eqA47
theorem foldL_spec {P : Program} {ops : Array Oper} {Q : Exit → Act → World → Prop} {rest : List Oper} {a : Act} {W : World} (Pr : World → Prop) (hp : Pr W) (h : ∀ W_,Pr W_ → wpList P ops Q rest a W_) : wpList P ops Q rest a W := h W hp
/-! ### spec_l4Code: function 83 -/
mutual
def spec_l4Code.j0 : Nat → Int → Int → Int → Bool → Option (Int)
 | 0,_,_,_,_ => none
 | k + 1,x0,x2,x7,x12 => if x12 = true then (some 2) else ((spec_l4Kind.f k x2).bind fun t101 => (if t101 = 1 then (spec_l4Code.j1 k x0 x2 x7 true) else ((spec_l4Kind.f k x7).bind fun t102 => (spec_l4Code.j1 k x0 x2 x7 (t102 == 1)))))
def spec_l4Code.j1 : Nat → Int → Int → Int → Bool → Option (Int)
 | 0,_,_,_,_ => none
 | k + 1,x0,x2,x7,x20 => if x20 = true then (some 1) else (if x0 = 2 then ((spec_l4Kind.f k x2).bind fun t103 => (if t103 = 3 then (some 3) else ((spec_l4Kind.f k x7).bind fun t104 => (if t104 = 3 then (some 3) else (some 0))))) else (some 0))
end
def spec_l4Code.f (k : Nat) (a0 : Int) (a1 : Int) (a2 : Int) : Option (Int) := if a1 = 2 then (spec_l4Code.j0 k a0 a2 (wrap64 ((wrap64 (a2 + a1)) - 1)) ((Go.bits .and .i64 a2 1) == 1)) else (spec_l4Code.j0 k a0 a2 (wrap64 ((wrap64 (a2 + a1)) - 1)) false)
theorem spec_l4Code.mono_l : ∀ k,(∀ y0 y1 y2 y3,LeO (spec_l4Code.j0 k y0 y1 y2 y3) (spec_l4Code.j0 (k + 1) y0 y1 y2 y3)) ∧ (∀ y0 y1 y2 y3,LeO (spec_l4Code.j1 k y0 y1 y2 y3) (spec_l4Code.j1 (k + 1) y0 y1 y2 y3))
 | 0 => ⟨fun _ _ _ _ r h => by simp [spec_l4Code.j0] at h,fun _ _ _ _ r h => by simp [spec_l4Code.j1] at h⟩
 | k + 1 => by
  obtain ⟨ih0,ih1⟩ := spec_l4Code.mono_l k
  refine ⟨?_,?_⟩
  ·
   intro y0 y1 y2 y3
   unfold spec_l4Code.j0
   repeat' first
   | (with_reducible exact ih0 _ _ _ _)
   | (with_reducible exact ih1 _ _ _ _)
   | (with_reducible exact spec_l4Kind.mono _ _)
   | (with_reducible exact LeO.refl _)
   | (with_reducible exact LeO.none _)
   | (with_reducible refine LeO.ite ?_ ?_)
   | (with_reducible refine LeO.bind ?_ (fun _ => ?_))
  ·
   intro y0 y1 y2 y3
   unfold spec_l4Code.j1
   repeat' first
   | (with_reducible exact ih0 _ _ _ _)
   | (with_reducible exact ih1 _ _ _ _)
   | (with_reducible exact spec_l4Kind.mono _ _)
   | (with_reducible exact LeO.refl _)
   | (with_reducible exact LeO.none _)
   | (with_reducible refine LeO.ite ?_ ?_)
   | (with_reducible refine LeO.bind ?_ (fun _ => ?_))
theorem spec_l4Code.mono : ∀ a0 a1 a2 k,LeO (spec_l4Code.f k a0 a1 a2) (spec_l4Code.f (k + 1) a0 a1 a2) := by
 intro a0 a1 a2 k
 obtain ⟨ih0,ih1⟩ := spec_l4Code.mono_l k
 unfold spec_l4Code.f
 repeat' first
   | (with_reducible exact ih0 _ _ _ _)
   | (with_reducible exact ih1 _ _ _ _)
   | (with_reducible exact spec_l4Kind.mono _ _)
   | (with_reducible exact LeO.refl _)
   | (with_reducible exact LeO.none _)
   | (with_reducible refine LeO.ite ?_ ?_)
   | (with_reducible refine LeO.bind ?_ (fun _ => ?_))
set_option maxHeartbeats 8000000 in
set_option maxRecDepth 100000 in
theorem spec_l4Code.calls (k : Nat) (a0 : Int) (a1 : Int) (a2 : Int) (r : Int) (w : World) (h : spec_l4Code.f k a0 a1 a2 = some r) :
  Calls Try.prog 83 #[.int .i64 a0,.int .i64 a1,.int .i64 a2] w fun e w' => e = .returned (.int .i64 r) ∧ Drawn0 w w' := by
 have H : (if a1 = 2 then (spec_l4Code.j0 k a0 a2 (wrap64 ((wrap64 (a2 + a1)) - 1)) ((Go.bits .and .i64 a2 1) == 1)) else (spec_l4Code.j0 k a0 a2 (wrap64 ((wrap64 (a2 + a1)) - 1)) false)) = some r := h;clear h;have HC4 := aS H;clear H;go_enter Try.func83,Try.ntmps83;go_upto_region 2 with (fail);go_cut [12] (fun v12 wc => ∃ (kq : Nat) (x12_3 : Bool),v12 = .bool x12_3 ∧ Aside0 (spec_l4Code.j0 kq a0 a2 (wrap64 ((wrap64 (a2 + a1)) - 1)) x12_3 = some r) ∧ Aside0 (kq ≤ k) ∧ Drawn0 w wc)
 case first =>
  have H := HC4.out;clear HC4;by_cases c5 : a1 = 2;{rw [if_pos c5] at H;obtain ⟨c5b0,c5b1⟩ := eT c5;clear c5;(first | rw [c5b0] | (simp only [i64_w,i32_w];rw [c5b0]) | skip);have H' := aS H;clear H;go_wp2;go_meet;case rel => exact ⟨_,(((Go.bits .and .i64 a2 1) == 1)),oE,H',⟨by first | omega | exact Nat.le_refl _⟩,by repeat (first | exact Drawn0.refl _ | apply Drawn0.step)⟩};{rw [if_neg c5] at H;obtain ⟨c5b0,c5b1⟩ := eF c5;(first | rw [c5b0] | (simp only [i64_w,i32_w];rw [c5b0]) | skip);have H' := aS H;clear H;go_wp2;go_meet;case rel => exact ⟨_,(false),oE,H',⟨by first | omega | exact Nat.le_refl _⟩,by repeat (first | exact Drawn0.refl _ | apply Drawn0.step)⟩}
 case rest =>
  clear HC4;obtain ⟨kq,x12_3,rfl,HA,HJ3,⟨mc3,rfl⟩⟩ := hcut;cases kq with
  | zero => exact absurd HA.out (by simp [spec_l4Code.j0])
  | succ kj3 =>
   have H := HA.out;clear HA;simp only [spec_l4Code.j0] at H;by_cases c6 : x12_3 = true;{subst c6;replace H := iT H;obtain rfl := Option.some.inj H;go_wp2;go_ret;exact ⟨by first | rfl | (simp;done) | (simp [*];done),by repeat (first | exact Drawn0.refl _ | apply Drawn0.step)⟩}
   ·
    replace c6 := Bool.eq_false_iff.mpr c6;subst c6;replace H := iF H;have HC7 := aS H;clear H;go_upto_region 4 with (fail);go_cut [20] (fun v20 wc => ∃ (kq : Nat) (x20_6 : Bool),v20 = .bool x20_6 ∧ Aside0 (spec_l4Code.j1 kq a0 a2 (wrap64 ((wrap64 (a2 + a1)) - 1)) x20_6 = some r) ∧ Aside0 (kq ≤ kj3) ∧ Drawn0 w wc)
    case first =>
     have H := HC7.out;clear HC7;obtain ⟨t101,A80,H⟩ := bE H;have A8 := aS A80;clear A80;by_cases c9 : t101 = 1
     ·
      rw [if_pos c9] at H;obtain ⟨c9b0,c9b1⟩ := eT c9;clear c9;(first | rw [c9b0] | (simp only [i64_w,i32_w];rw [c9b0]) | skip);have H' := aS H;clear H;go_wp2_with (first | ((with_reducible refine gate_callee (f := 116) rfl ?_);refine goesQ (some 22) Try.func116 #[.int .i64 a2] (spec_l4Kind.calls kj3 a2 t101 _ A8.out) fun nd => ?_));go_meet;case rel => exact ⟨_,(true),oE,H',⟨by have := HJ3.out;first | omega | exact Nat.le_refl _⟩,by repeat (first | exact Drawn0.refl _ | apply Drawn0.step)⟩
     ·
      rw [if_neg c9] at H;obtain ⟨c9b0,c9b1⟩ := eF c9;(first | rw [c9b0] | (simp only [i64_w,i32_w];rw [c9b0]) | skip);obtain ⟨t102,A100,H⟩ := bE H;have A10 := aS A100;clear A100;have H' := aS H;clear H;go_wp2_with (first | ((with_reducible refine gate_callee (f := 116) rfl ?_);refine goesQ (some 22) Try.func116 #[.int .i64 a2] (spec_l4Kind.calls kj3 a2 t101 _ A8.out) fun nd => ?_) | (go_at_call 116;(with_reducible refine (spec_l4Kind.calls kj3 (wrap64 ((wrap64 (a2 + a1)) - 1)) t102 _ A10.out).mono ?_);rintro e w' ⟨rfl,⟨nd,rfl⟩⟩));go_meet;case rel => exact ⟨_,((t102 == 1)),oE,H',⟨by have := HJ3.out;first | omega | exact Nat.le_refl _⟩,by repeat (first | exact Drawn0.refl _ | apply Drawn0.step)⟩
    case rest =>
     clear HC7;obtain ⟨kq,x20_6,rfl,HA,HJ6,⟨mc6,rfl⟩⟩ := hcut;cases kq with
     | zero => exact absurd HA.out (by simp [spec_l4Code.j1])
     | succ kj6 =>
      have H := HA.out;clear HA;simp only [spec_l4Code.j1] at H;by_cases c11 : x20_6 = true;{subst c11;replace H := iT H;obtain rfl := Option.some.inj H;go_wp2;go_ret;exact ⟨by first | rfl | (simp;done) | (simp [*];done),by repeat (first | exact Drawn0.refl _ | apply Drawn0.step)⟩}
      ·
       replace c11 := Bool.eq_false_iff.mpr c11;subst c11;replace H := iF H;by_cases c12 : a0 = 2
       ·
        rw [if_pos c12] at H;obtain ⟨c12b0,c12b1⟩ := eT c12;clear c12;obtain ⟨t103,A130,H⟩ := bE H;have A13 := aS A130;clear A130;by_cases c14 : t103 = 3
        ·
         rw [if_pos c14] at H;obtain ⟨c14b0,c14b1⟩ := eT c14;clear c14;obtain rfl := Option.some.inj H;go_wp2_with (first | (go_at_call 116;(with_reducible refine (spec_l4Kind.calls kj6 a2 t103 _ A13.out).mono ?_);rintro e w' ⟨rfl,⟨nd,rfl⟩⟩));go_ret;exact ⟨by first | rfl | (simp;done) | (simp [*];done),by repeat (first | exact Drawn0.refl _ | apply Drawn0.step)⟩
        ·
         rw [if_neg c14] at H;obtain ⟨c14b0,c14b1⟩ := eF c14;obtain ⟨t104,A150,H⟩ := bE H;have A15 := aS A150;clear A150;by_cases c16 : t104 = 3
         ·
          rw [if_pos c16] at H;obtain ⟨c16b0,c16b1⟩ := eT c16;clear c16;obtain rfl := Option.some.inj H;go_wp2_with (first | (go_at_call 116;(with_reducible refine (spec_l4Kind.calls kj6 a2 t103 _ A13.out).mono ?_);rintro e w' ⟨rfl,⟨nd,rfl⟩⟩) | (go_at_call 116;(with_reducible refine (spec_l4Kind.calls kj6 (wrap64 ((wrap64 (a2 + a1)) - 1)) t104 _ A15.out).mono ?_);rintro e w' ⟨rfl,⟨nd,rfl⟩⟩));go_ret;exact ⟨by first | rfl | (simp;done) | (simp [*];done),by repeat (first | exact Drawn0.refl _ | apply Drawn0.step)⟩
         ·
          rw [if_neg c16] at H;obtain ⟨c16b0,c16b1⟩ := eF c16;obtain rfl := Option.some.inj H;go_wp2_with (first | (go_at_call 116;(with_reducible refine (spec_l4Kind.calls kj6 a2 t103 _ A13.out).mono ?_);rintro e w' ⟨rfl,⟨nd,rfl⟩⟩) | (go_at_call 116;(with_reducible refine (spec_l4Kind.calls kj6 (wrap64 ((wrap64 (a2 + a1)) - 1)) t104 _ A15.out).mono ?_);rintro e w' ⟨rfl,⟨nd,rfl⟩⟩));go_ret;exact ⟨by first | rfl | (simp;done) | (simp [*];done),by repeat (first | exact Drawn0.refl _ | apply Drawn0.step)⟩
       · rw [if_neg c12] at H;obtain ⟨c12b0,c12b1⟩ := eF c12;obtain rfl := Option.some.inj H;go_wp2;go_ret;exact ⟨by first | rfl | (simp;done) | (simp [*];done),by repeat (first | exact Drawn0.refl _ | apply Drawn0.step)⟩

/-! ### spec_l15Word: function 51 -/
def spec_l15Word.f (k : Nat) (l0_0 : List Int) (l0_1 : List (S89)) (a1 : Int) : Option (Int) := if (wrap64 (a1 + 1)) ≥ 512 then (some (-1)) else ((spec_l4Code.f k 1 2 a1).bind fun t102 => (if t102 = 0 then (if 0 ≤ a1 then (if a1 < (l0_0.length : Int) then (if 0 ≤ (wrap64 (a1 + 1)) then (if (wrap64 (a1 + 1)) < (l0_0.length : Int) then (some (Go.bits .or .i64 (wrap64 ((rd l0_0 a1) * 256)) (rd l0_0 (wrap64 (a1 + 1))))) else (none)) else (none)) else (none)) else (none)) else (some (-1))))
theorem spec_l15Word.mono : ∀ a0 a1 a2 k,LeO (spec_l15Word.f k a0 a1 a2) (spec_l15Word.f (k + 1) a0 a1 a2) := by
 intro a0 a1 a2 k
 unfold spec_l15Word.f
 repeat' first
   | (with_reducible exact spec_l4Code.mono _ _ _ _)
   | (with_reducible exact LeO.refl _)
   | (with_reducible exact LeO.none _)
   | (with_reducible refine LeO.ite ?_ ?_)
   | (with_reducible refine LeO.bind ?_ (fun _ => ?_))
set_option maxHeartbeats 8000000 in
set_option maxRecDepth 100000 in
theorem spec_l15Word.calls (k : Nat) (A0_0 : Option Addr) (c0_0 : Nat) (l0_0 : List Int) (A0_1 : Option Addr) (c0_1 : Nat) (l0_1 : List (S89)) (a1 : Int) (r : Int) (w : World) (hr0_0 : Kd.C (Kd.int .i64) w A0_0 l0_0.length l0_0) (hc0_0 : l0_0.length ≤ c0_0) (hr0_1 : Kd.C k89 w A0_1 l0_1.length l0_1) (hc0_1 : l0_1.length ≤ c0_1) (h : spec_l15Word.f k l0_0 l0_1 a1 = some r) :
  Calls Try.prog 51 #[.agg #[.slice A0_0 l0_0.length c0_0,.slice A0_1 l0_1.length c0_1],.int .i64 a1] w fun e w' => e = .returned (.int .i64 r) ∧ Below w.heap.size w w' := by
 have hu34 := Try.underlying34;have HR0_0 := aS hr0_0;have HC0_0 := aS hc0_0;clear hr0_0 hc0_0;have HR0_1 := aS hr0_1;have HC0_1 := aS hc0_1;clear hr0_1 hc0_1;have HB := aS (Below.refl w.heap.size w);have H : (if (wrap64 (a1 + 1)) ≥ 512 then (some (-1)) else ((spec_l4Code.f k 1 2 a1).bind fun t102 => (if t102 = 0 then (if 0 ≤ a1 then (if a1 < (l0_0.length : Int) then (if 0 ≤ (wrap64 (a1 + 1)) then (if (wrap64 (a1 + 1)) < (l0_0.length : Int) then (some (Go.bits .or .i64 (wrap64 ((rd l0_0 a1) * 256)) (rd l0_0 (wrap64 (a1 + 1))))) else (none)) else (none)) else (none)) else (none)) else (some (-1))))) = some r := h;clear h;by_cases c3 : (wrap64 (a1 + 1)) ≥ 512
 ·
  rw [if_pos c3] at H;have c3b0 : decide (512 ≤ (wrap64 (a1 + 1))) = true := decide_eq_true c3;clear c3;obtain rfl := Option.some.inj H;go_enter Try.func51,Try.ntmps51;go_wp2_with (first | ((with_reducible refine gate_dst (N := 2) rfl ?_);refine boxE (w := w) oL (cs := #[.slice A0_0 l0_0.length c0_0,.slice A0_1 l0_1.length c0_1]) (t := 34) ?_;clear HB;intro gb101 w4 HB BK101 GW101;have GE101 := GW101));repeat (go_quiet (first | ((with_reducible refine gate_dst (N := 2) rfl ?_);refine boxE (w := w) oL (cs := #[.slice A0_0 l0_0.length c0_0,.slice A0_1 l0_1.length c0_1]) (t := 34) ?_;clear HB;intro gb101 w4 HB BK101 GW101;have GE101 := GW101));try go_wp2_with (first | ((with_reducible refine gate_dst (N := 2) rfl ?_);refine boxE (w := w) oL (cs := #[.slice A0_0 l0_0.length c0_0,.slice A0_1 l0_1.length c0_1]) (t := 34) ?_;clear HB;intro gb101 w4 HB BK101 GW101;have GE101 := GW101)))
  go_ret;exact ⟨oE,oL⟩
 ·
  rw [if_neg c3] at H;have c3b0 : decide (512 ≤ (wrap64 (a1 + 1))) = false := decide_eq_false c3;clear c3;obtain ⟨t102,A50,H⟩ := bE H;have A5 := aS A50;clear A50;by_cases c6 : t102 = 0
  ·
   rw [if_pos c6] at H;obtain ⟨c6b0,c6b1⟩ := eT c6;clear c6;by_cases c7 : 0 ≤ a1
   ·
    rw [if_pos c7] at H;have c7b0 : decide (0 ≤ a1) = true := decide_eq_true c7;clear c7;by_cases c8 : a1 < (l0_0.length : Int)
    ·
     rw [if_pos c8] at H;have c8b0 : decide (a1 < (l0_0.length : Int)) = true := decide_eq_true c8;clear c8;obtain ⟨ji9,hji9⟩ : ∃ j_ : Int,(wrap64 (a1 + 1)) = j_ := ⟨_,rfl⟩;replace H : (if 0 ≤ (ji9) then (if (ji9) < (l0_0.length : Int) then (some (Go.bits .or .i64 (wrap64 ((rd l0_0 a1) * 256)) (rd l0_0 (ji9)))) else (none)) else (none)) = some r := by first | (rw [hji9] at H;exact H) | (simp only [hji9] at H ⊢;exact H)
     (try rw [hji9] at c3b0);(try rw [hji9] at A5);have hji9w : (IntKind.i64.wrap (a1 + 1)) = ji9 := (i64_w _).trans hji9;by_cases c10 : 0 ≤ (ji9)
     ·
      rw [if_pos c10] at H;have c10b0 : decide (0 ≤ (ji9)) = true := decide_eq_true c10;clear c10;by_cases c11 : (ji9) < (l0_0.length : Int)
      ·
       rw [if_pos c11] at H;have c11b0 : decide ((ji9) < (l0_0.length : Int)) = true := decide_eq_true c11;clear c11;obtain rfl := Option.some.inj H;go_enter Try.func51,Try.ntmps51;go_wp2_with (first | ((with_reducible refine gate_dst (N := 2) rfl ?_);refine boxE (w := w) oL (cs := #[.slice A0_0 l0_0.length c0_0,.slice A0_1 l0_1.length c0_1]) (t := 34) ?_;clear HB;intro gb101 w12 HB BK101 GW101;have GE101 := GW101) | (go_at_call 83;(with_reducible refine (spec_l4Code.calls k 1 2 a1 t102 _ A5.out).mono ?_);rintro e w' ⟨rfl,⟨nd,rfl⟩⟩;(try first | exact ⟨rfl,_,World.drewN_drewN _ _ _⟩ | exact ⟨rfl,_,Eq.trans (World.drewN_drewN _ _ _) (congrArg (World.drewN _) (Nat.add_assoc _ _ _))⟩);refine zz2 BK101.out ?_;intros;have p103 : 0 ≤ (a1 : Int) := of_decide_eq_true (by first | (with_reducible assumption) | assumption);have q103 : a1 < (l0_0.length : Int) := of_decide_eq_true (by first | (with_reducible assumption) | assumption);obtain ⟨ad103,e103,hx103_0⟩ := Kd.at_int HR0_0.out a1 p103 q103;cases e103;replace hx103_0 := oJ HB hx103_0;replace p103 := eq_true p103;replace q103 := eq_true q103;have p104 : 0 ≤ ((ji9) : Int) := of_decide_eq_true (by first | (with_reducible assumption) | assumption);have q104 : (ji9) < (l0_0.length : Int) := of_decide_eq_true (by first | (with_reducible assumption) | assumption);obtain ⟨ad104,e104,hx104_0⟩ := Kd.at_int HR0_0.out (ji9) p104 q104;obtain rfl : ad103 = ad104 := (by injection e104);replace hx104_0 := oJ HB hx104_0;replace p104 := eq_true p104;replace q104 := eq_true q104));repeat (go_quiet (first | ((with_reducible refine gate_dst (N := 2) rfl ?_);refine boxE (w := w) oL (cs := #[.slice A0_0 l0_0.length c0_0,.slice A0_1 l0_1.length c0_1]) (t := 34) ?_;clear HB;intro gb101 w12 HB BK101 GW101;have GE101 := GW101) | (go_at_call 83;(with_reducible refine (spec_l4Code.calls k 1 2 a1 t102 _ A5.out).mono ?_);rintro e w' ⟨rfl,⟨nd,rfl⟩⟩;(try first | exact ⟨rfl,_,World.drewN_drewN _ _ _⟩ | exact ⟨rfl,_,Eq.trans (World.drewN_drewN _ _ _) (congrArg (World.drewN _) (Nat.add_assoc _ _ _))⟩);refine zz2 BK101.out ?_;intros;have p103 : 0 ≤ (a1 : Int) := of_decide_eq_true (by first | (with_reducible assumption) | assumption);have q103 : a1 < (l0_0.length : Int) := of_decide_eq_true (by first | (with_reducible assumption) | assumption);obtain ⟨ad103,e103,hx103_0⟩ := Kd.at_int HR0_0.out a1 p103 q103;cases e103;replace hx103_0 := oJ HB hx103_0;replace p103 := eq_true p103;replace q103 := eq_true q103;have p104 : 0 ≤ ((ji9) : Int) := of_decide_eq_true (by first | (with_reducible assumption) | assumption);have q104 : (ji9) < (l0_0.length : Int) := of_decide_eq_true (by first | (with_reducible assumption) | assumption);obtain ⟨ad104,e104,hx104_0⟩ := Kd.at_int HR0_0.out (ji9) p104 q104;obtain rfl : ad103 = ad104 := (by injection e104);replace hx104_0 := oJ HB hx104_0;replace p104 := eq_true p104;replace q104 := eq_true q104));try go_wp2_with (first | ((with_reducible refine gate_dst (N := 2) rfl ?_);refine boxE (w := w) oL (cs := #[.slice A0_0 l0_0.length c0_0,.slice A0_1 l0_1.length c0_1]) (t := 34) ?_;clear HB;intro gb101 w12 HB BK101 GW101;have GE101 := GW101) | (go_at_call 83;(with_reducible refine (spec_l4Code.calls k 1 2 a1 t102 _ A5.out).mono ?_);rintro e w' ⟨rfl,⟨nd,rfl⟩⟩;(try first | exact ⟨rfl,_,World.drewN_drewN _ _ _⟩ | exact ⟨rfl,_,Eq.trans (World.drewN_drewN _ _ _) (congrArg (World.drewN _) (Nat.add_assoc _ _ _))⟩);refine zz2 BK101.out ?_;intros;have p103 : 0 ≤ (a1 : Int) := of_decide_eq_true (by first | (with_reducible assumption) | assumption);have q103 : a1 < (l0_0.length : Int) := of_decide_eq_true (by first | (with_reducible assumption) | assumption);obtain ⟨ad103,e103,hx103_0⟩ := Kd.at_int HR0_0.out a1 p103 q103;cases e103;replace hx103_0 := oJ HB hx103_0;replace p103 := eq_true p103;replace q103 := eq_true q103;have p104 : 0 ≤ ((ji9) : Int) := of_decide_eq_true (by first | (with_reducible assumption) | assumption);have q104 : (ji9) < (l0_0.length : Int) := of_decide_eq_true (by first | (with_reducible assumption) | assumption);obtain ⟨ad104,e104,hx104_0⟩ := Kd.at_int HR0_0.out (ji9) p104 q104;obtain rfl : ad103 = ad104 := (by injection e104);replace hx104_0 := oJ HB hx104_0;replace p104 := eq_true p104;replace q104 := eq_true q104)))
       go_ret;exact ⟨by first | rfl | (simp [errW_none,errW_some] <;> rfl) | (simp only [← hji9];first | rfl | (simp [errW_none,errW_some] <;> rfl)) | (simp [*,errW_none,errW_some] <;> rfl),oL⟩
      · rw [if_neg c11] at H;exact absurd H (by simp)
     · rw [if_neg c10] at H;exact absurd H (by simp)
    · rw [if_neg c8] at H;exact absurd H (by simp)
   · rw [if_neg c7] at H;exact absurd H (by simp)
  ·
   rw [if_neg c6] at H;obtain ⟨c6b0,c6b1⟩ := eF c6;obtain rfl := Option.some.inj H;go_enter Try.func51,Try.ntmps51;go_wp2_with (first | ((with_reducible refine gate_dst (N := 2) rfl ?_);refine boxE (w := w) oL (cs := #[.slice A0_0 l0_0.length c0_0,.slice A0_1 l0_1.length c0_1]) (t := 34) ?_;clear HB;intro gb101 w14 HB BK101 GW101;have GE101 := GW101) | (go_at_call 83;(with_reducible refine (spec_l4Code.calls k 1 2 a1 t102 _ A5.out).mono ?_);rintro e w' ⟨rfl,⟨nd,rfl⟩⟩;(try first | exact ⟨rfl,_,World.drewN_drewN _ _ _⟩ | exact ⟨rfl,_,Eq.trans (World.drewN_drewN _ _ _) (congrArg (World.drewN _) (Nat.add_assoc _ _ _))⟩)));repeat (go_quiet (first | ((with_reducible refine gate_dst (N := 2) rfl ?_);refine boxE (w := w) oL (cs := #[.slice A0_0 l0_0.length c0_0,.slice A0_1 l0_1.length c0_1]) (t := 34) ?_;clear HB;intro gb101 w14 HB BK101 GW101;have GE101 := GW101) | (go_at_call 83;(with_reducible refine (spec_l4Code.calls k 1 2 a1 t102 _ A5.out).mono ?_);rintro e w' ⟨rfl,⟨nd,rfl⟩⟩;(try first | exact ⟨rfl,_,World.drewN_drewN _ _ _⟩ | exact ⟨rfl,_,Eq.trans (World.drewN_drewN _ _ _) (congrArg (World.drewN _) (Nat.add_assoc _ _ _))⟩)));try go_wp2_with (first | ((with_reducible refine gate_dst (N := 2) rfl ?_);refine boxE (w := w) oL (cs := #[.slice A0_0 l0_0.length c0_0,.slice A0_1 l0_1.length c0_1]) (t := 34) ?_;clear HB;intro gb101 w14 HB BK101 GW101;have GE101 := GW101) | (go_at_call 83;(with_reducible refine (spec_l4Code.calls k 1 2 a1 t102 _ A5.out).mono ?_);rintro e w' ⟨rfl,⟨nd,rfl⟩⟩;(try first | exact ⟨rfl,_,World.drewN_drewN _ _ _⟩ | exact ⟨rfl,_,Eq.trans (World.drewN_drewN _ _ _) (congrArg (World.drewN _) (Nat.add_assoc _ _ _))⟩))))
   go_ret;exact ⟨oE,oL⟩

/-! ### spec_l6Ext: function 84 -/
def spec_l6Ext.f (a0 : Int) : Option (Bool) := some (decide (a0 ≥ 5))
set_option maxHeartbeats 8000000 in
set_option maxRecDepth 100000 in
theorem spec_l6Ext.calls (a0 : Int) (r : Bool) (w : World) (h : spec_l6Ext.f a0 = some r) :
  Calls Try.prog 84 #[.int .i64 a0] w fun e w' => e = .returned (.bool r) ∧ Drawn0 w w' := by
 have H : (some (decide (a0 ≥ 5))) = some r := h;clear h;obtain rfl := Option.some.inj H;go_enter Try.func84,Try.ntmps84;go_wp2;go_ret;exact ⟨by first | rfl | (simp;done) | (simp [*];done),by repeat (first | exact Drawn0.refl _ | apply Drawn0.step)⟩

/-! ### spec_l7Long: function 52 -/
def spec_l7Long.f (a0 : Int) : Option (Int) := (spec_l6Ext.f (Go.bits .and .i64 (a0 / 32) 7)).bind fun t101 => (if t101 = true then (some 2) else (some 1))
set_option maxHeartbeats 8000000 in
set_option maxRecDepth 100000 in
theorem spec_l7Long.calls (a0 : Int) (r : Int) (w : World) (h : spec_l7Long.f a0 = some r) :
  Calls Try.prog 52 #[.int .i64 a0] w fun e w' => e = .returned (.int .i64 r) ∧ Drawn0 w w' := by
 have H : ((spec_l6Ext.f (Go.bits .and .i64 (a0 / 32) 7)).bind fun t101 => (if t101 = true then (some 2) else (some 1))) = some r := h;clear h;obtain ⟨t101,A20,H⟩ := bE H;have A2 := aS A20;clear A20;by_cases c3 : t101 = true
 ·
  subst c3;replace H := iT H;obtain rfl := Option.some.inj H;go_enter Try.func52,Try.ntmps52;go_wp2_with (first | ((with_reducible refine gate_callee (f := 84) rfl ?_);refine goesQ (some 6) Try.func84 #[.int .i64 (Go.bits .and .i64 (a0 / 32) 7)] (spec_l6Ext.calls (Go.bits .and .i64 (a0 / 32) 7) true _ A2.out) fun nd => ?_));go_ret;exact ⟨by first | rfl | (simp;done) | (simp [*];done),by repeat (first | exact Drawn0.refl _ | apply Drawn0.step)⟩
 ·
  replace c3 := Bool.eq_false_iff.mpr c3;subst c3;replace H := iF H;obtain rfl := Option.some.inj H;go_enter Try.func52,Try.ntmps52;go_wp2_with (first | ((with_reducible refine gate_callee (f := 84) rfl ?_);refine goesQ (some 6) Try.func84 #[.int .i64 (Go.bits .and .i64 (a0 / 32) 7)] (spec_l6Ext.calls (Go.bits .and .i64 (a0 / 32) 7) false _ A2.out) fun nd => ?_));go_ret;exact ⟨by first | rfl | (simp;done) | (simp [*];done),by repeat (first | exact Drawn0.refl _ | apply Drawn0.step)⟩

/-! ### spec_l7Decode: function 53 -/
def spec_l7Decode.f (a0 : Int) (a1 : Int) : Option (Int × Int × Int × Int × Int × Int × Int) := (spec_l7Long.f a0).bind fun t103 => (if t103 = 2 then (some (a0 / 2048,wrap64 ((Go.bits .and .i64 (a0 / 1024) 1) + 1),Go.bits .and .i64 (a0 / 256) 3,Go.bits .and .i64 (a0 / 32) 7,Go.bits .and .i64 (a0 / 8) 3,a1,Go.bits .and .i64 a0 7)) else (some (a0 / 2048,wrap64 ((Go.bits .and .i64 (a0 / 1024) 1) + 1),Go.bits .and .i64 (a0 / 256) 3,Go.bits .and .i64 (a0 / 32) 7,Go.bits .and .i64 (a0 / 8) 3,0,Go.bits .and .i64 a0 7)))
set_option maxHeartbeats 8000000 in
set_option maxRecDepth 100000 in
theorem spec_l7Decode.calls (a0 : Int) (a1 : Int) (r1 : Int) (r2 : Int) (r3 : Int) (r4 : Int) (r5 : Int) (r6 : Int) (r7 : Int) (w : World) (h : spec_l7Decode.f a0 a1 = some (r1,r2,r3,r4,r5,r6,r7)) :
  Calls Try.prog 53 #[.int .i64 a0,.int .i64 a1] w fun e w' => e = .returned (.agg #[.int .i64 r1,.int .i64 r2,.int .i64 r3,.int .i64 r4,.int .i64 r5,.int .i64 r6,.int .i64 r7]) ∧ Below w.heap.size w w' := by
 have hu49 := Try.underlying49;have hu47 := Try.underlying47;have HB := aS (Below.refl w.heap.size w);have H : ((spec_l7Long.f a0).bind fun t103 => (if t103 = 2 then (some (a0 / 2048,wrap64 ((Go.bits .and .i64 (a0 / 1024) 1) + 1),Go.bits .and .i64 (a0 / 256) 3,Go.bits .and .i64 (a0 / 32) 7,Go.bits .and .i64 (a0 / 8) 3,a1,Go.bits .and .i64 a0 7)) else (some (a0 / 2048,wrap64 ((Go.bits .and .i64 (a0 / 1024) 1) + 1),Go.bits .and .i64 (a0 / 256) 3,Go.bits .and .i64 (a0 / 32) 7,Go.bits .and .i64 (a0 / 8) 3,0,Go.bits .and .i64 a0 7)))) = some (r1,r2,r3,r4,r5,r6,r7) := h;clear h;obtain ⟨t103,A30,H⟩ := bE H;have A3 := aS A30;clear A30;by_cases c4 : t103 = 2
 ·
  rw [if_pos c4] at H;obtain ⟨c4b0,c4b1⟩ := eT c4;clear c4;simp only [Option.some.injEq,Prod.mk.injEq] at H;obtain ⟨rfl,rfl,rfl,rfl,rfl,rfl,rfl⟩ := H;go_enter Try.func53,Try.ntmps53;go_wp2_with (first | ((with_reducible refine gate_dst (N := 4) rfl ?_);refine boxE (w := w) oL (cs := #[.int .i64 0,.int .i64 0,.int .i64 0,.int .i64 0,.int .i64 0,.int .i64 0,.int .i64 0]) (t := 49) ?_;clear HB;intro gb101 w5 HB BK101 GW101;have GE101 := GW101) | ((with_reducible refine gate_dst (N := 5) rfl ?_);refine box_event ?hg (N := 5) ?hd (cs := #[.int .i64 0,.int .i64 0,.int .i64 0,.int .i64 0,.int .i64 0,.int .i64 0,.int .i64 0]) (t := 49) ?hr ?_;(case hd => rfl);(case hg => rfl);(case hr => first | (go_simp;done) | (go_simp;rfl));intro gb102 hg w6 hbox hb;refine mk7 (blk_below (oB BK101.out) hb) (below_step oL hb) (hbox) ((oS hg oL : w.heap.size ≤ gb102)) ((oS hg oL : w.heap.size ≤ gb102)) ((oN hg (oB BK101.out) : gb101 ≠ gb102)) ((oM hg (oB BK101.out) : gb102 ≠ gb101)) ?_;clear BK101 HB;intro BK101 HB BK102 GW102 GE102 NB101_102 NB102_101;clear hb hbox hg;have hnb7 := NB102_101.out;have hnc7 := NB101_102.out;refine zz7 BK102.out ?_;intros) | ((with_reducible refine gate_callee (f := 52) rfl ?_);refine goesQ (some 27) Try.func52 #[.int .i64 a0] (spec_l7Long.calls a0 t103 _ A3.out) fun nd => ?_;refine foldL_spec (fun W_ => W_.heap[gb102]? = some (.cells #[.int .i64 (a0 / 2048),.int .i64 (wrap64 ((Go.bits .and .i64 (a0 / 1024) 1) + 1)),.int .i64 (Go.bits .and .i64 (a0 / 256) 3),.int .i64 (Go.bits .and .i64 (a0 / 32) 7),.int .i64 (Go.bits .and .i64 (a0 / 8) 3),.int .i64 0,.int .i64 (Go.bits .and .i64 a0 7)] 49 (0,0)) ∧ W_.heap[gb101]? = some (.cells #[.int .i64 0,.int .i64 0,.int .i64 0,.int .i64 0,.int .i64 0,.int .i64 0,.int .i64 0] 49 (0,0)) ∧ Below w.heap.size w W_) ⟨oP BK102.out,oG BK101.out NB101_102.out,oL⟩ ?_;intro W_ ⟨p1,p3,p2⟩;replace BK102 := aS p1;replace BK101 := aS p3;replace HB := aS p2;clear p1 p2 p3;refine zz7 BK101.out ?_;intros;obtain ⟨hcy_0,hcy_1,hcy_2,hcy_3,hcy_4,hcy_5,hcy_6⟩ := cz7 BK102.out;obtain ⟨hfy_0,hfy_1,hfy_2,hfy_3,hfy_4,hfy_5,hfy_6⟩ := fz7 BK102.out));refine bodyPost_ret (results_cell_row rfl _ _ gb101 49 #[.int .i64 (a0 / 2048),.int .i64 (wrap64 ((Go.bits .and .i64 (a0 / 1024) 1) + 1)),.int .i64 (Go.bits .and .i64 (a0 / 256) 3),.int .i64 (Go.bits .and .i64 (a0 / 32) 7),.int .i64 (Go.bits .and .i64 (a0 / 8) 3),.int .i64 a1,.int .i64 (Go.bits .and .i64 a0 7)] (0,0) _ rfl (oP BK101.out) Try.underlying49 rfl (by kernel_rfl)) rfl ?_;exact ⟨oE,oL⟩
 ·
  rw [if_neg c4] at H;obtain ⟨c4b0,c4b1⟩ := eF c4;simp only [Option.some.injEq,Prod.mk.injEq] at H;obtain ⟨rfl,rfl,rfl,rfl,rfl,rfl,rfl⟩ := H;go_enter Try.func53,Try.ntmps53;go_wp2_with (first | ((with_reducible refine gate_dst (N := 4) rfl ?_);refine boxE (w := w) oL (cs := #[.int .i64 0,.int .i64 0,.int .i64 0,.int .i64 0,.int .i64 0,.int .i64 0,.int .i64 0]) (t := 49) ?_;clear HB;intro gb101 w10 HB BK101 GW101;have GE101 := GW101) | ((with_reducible refine gate_dst (N := 5) rfl ?_);refine box_event ?hg (N := 5) ?hd (cs := #[.int .i64 0,.int .i64 0,.int .i64 0,.int .i64 0,.int .i64 0,.int .i64 0,.int .i64 0]) (t := 49) ?hr ?_;(case hd => rfl);(case hg => rfl);(case hr => first | (go_simp;done) | (go_simp;rfl));intro gb102 hg w11 hbox hb;refine mk7 (blk_below (oB BK101.out) hb) (below_step oL hb) (hbox) ((oS hg oL : w.heap.size ≤ gb102)) ((oS hg oL : w.heap.size ≤ gb102)) ((oN hg (oB BK101.out) : gb101 ≠ gb102)) ((oM hg (oB BK101.out) : gb102 ≠ gb101)) ?_;clear BK101 HB;intro BK101 HB BK102 GW102 GE102 NB101_102 NB102_101;clear hb hbox hg;have hnb12 := NB102_101.out;have hnc12 := NB101_102.out;refine zz7 BK102.out ?_;intros) | ((with_reducible refine gate_callee (f := 52) rfl ?_);refine goesQ (some 27) Try.func52 #[.int .i64 a0] (spec_l7Long.calls a0 t103 _ A3.out) fun nd => ?_;refine foldL_spec (fun W_ => W_.heap[gb102]? = some (.cells #[.int .i64 (a0 / 2048),.int .i64 (wrap64 ((Go.bits .and .i64 (a0 / 1024) 1) + 1)),.int .i64 (Go.bits .and .i64 (a0 / 256) 3),.int .i64 (Go.bits .and .i64 (a0 / 32) 7),.int .i64 (Go.bits .and .i64 (a0 / 8) 3),.int .i64 0,.int .i64 (Go.bits .and .i64 a0 7)] 49 (0,0)) ∧ W_.heap[gb101]? = some (.cells #[.int .i64 0,.int .i64 0,.int .i64 0,.int .i64 0,.int .i64 0,.int .i64 0,.int .i64 0] 49 (0,0)) ∧ Below w.heap.size w W_) ⟨oP BK102.out,oG BK101.out NB101_102.out,oL⟩ ?_;intro W_ ⟨p1,p3,p2⟩;replace BK102 := aS p1;replace BK101 := aS p3;replace HB := aS p2;clear p1 p2 p3;refine zz7 BK101.out ?_;intros;obtain ⟨hcy_0,hcy_1,hcy_2,hcy_3,hcy_4,hcy_5,hcy_6⟩ := cz7 BK102.out;obtain ⟨hfy_0,hfy_1,hfy_2,hfy_3,hfy_4,hfy_5,hfy_6⟩ := fz7 BK102.out));refine bodyPost_ret (results_cell_row rfl _ _ gb101 49 #[.int .i64 (a0 / 2048),.int .i64 (wrap64 ((Go.bits .and .i64 (a0 / 1024) 1) + 1)),.int .i64 (Go.bits .and .i64 (a0 / 256) 3),.int .i64 (Go.bits .and .i64 (a0 / 32) 7),.int .i64 (Go.bits .and .i64 (a0 / 8) 3),.int .i64 0,.int .i64 (Go.bits .and .i64 a0 7)] (0,0) _ rfl (oP BK101.out) Try.underlying49 rfl (by kernel_rfl)) rfl ?_;exact ⟨oE,oL⟩

/-! ### spec_l6Word: function 105 -/
def spec_l6Word.f (a0 : Int) : Option (Bool) := (spec_l1In.f a0 0 65535).bind fun t101 => (some t101)
set_option maxHeartbeats 8000000 in
set_option maxRecDepth 100000 in
theorem spec_l6Word.calls (a0 : Int) (r : Bool) (w : World) (h : spec_l6Word.f a0 = some r) :
  Calls Try.prog 105 #[.int .i64 a0] w fun e w' => e = .returned (.bool r) ∧ Drawn0 w w' := by
 have H : ((spec_l1In.f a0 0 65535).bind fun t101 => (some t101)) = some r := h;clear h;obtain ⟨t101,A20,H⟩ := bE H;have A2 := aS A20;clear A20;obtain rfl := Option.some.inj H;go_enter Try.func105,Try.ntmps105;go_wp2_with (first | ((with_reducible refine gate_callee (f := 24) rfl ?_);refine goesQ (some 4) Try.func24 #[.int .i64 a0,.int .i64 0,.int .i64 65535] (spec_l1In.calls a0 0 65535 t101 _ A2.out) fun nd => ?_));go_ret;exact ⟨by first | rfl | (simp;done) | (simp [*];done),by repeat (first | exact Drawn0.refl _ | apply Drawn0.step)⟩

/-! ### spec_GoodOperand: function 86 -/
def spec_GoodOperand.j0 : Nat → Bool → Int → Int → Int → Option (Bool)
 | 0,_,_,_,_ => none
 | k + 1,x22,x102000,x102001,x102002 => if x22 = true then (some false) else ((spec_l6Word.f x102002).bind fun t104 => (if t104 = true then ((spec_l6Ext.f x102000).bind fun t105 => (if t105 = true then (some true) else (some (x102002 == 0)))) else (some false)))
def spec_GoodOperand.f (k : Nat) (a0_0 : Int) (a0_1 : Int) (a0_2 : Int) : Option (Bool) := (spec_l1In.f a0_0 0 7).bind fun t102 => (if t102 = true then ((spec_l1In.f a0_1 0 3).bind fun t103 => (if t103 = true then (if a0_0 ≥ 6 then (spec_GoodOperand.j0 k (a0_1 != 0) a0_0 a0_1 a0_2) else (spec_GoodOperand.j0 k false a0_0 a0_1 a0_2)) else (spec_GoodOperand.j0 k true a0_0 a0_1 a0_2))) else (spec_GoodOperand.j0 k true a0_0 a0_1 a0_2))
theorem spec_GoodOperand.mono_l : ∀ k,(∀ y0 y1 y2 y3,LeO (spec_GoodOperand.j0 k y0 y1 y2 y3) (spec_GoodOperand.j0 (k + 1) y0 y1 y2 y3))
 | 0 => fun _ _ _ _ r h => by simp [spec_GoodOperand.j0] at h
 | k + 1 => by
  have ih0 := spec_GoodOperand.mono_l k
  ·
   intro y0 y1 y2 y3
   unfold spec_GoodOperand.j0
   repeat' first
   | (with_reducible exact ih0 _ _ _ _)
   | (with_reducible exact LeO.refl _)
   | (with_reducible exact LeO.none _)
   | (with_reducible refine LeO.ite ?_ ?_)
   | (with_reducible refine LeO.bind ?_ (fun _ => ?_))
theorem spec_GoodOperand.mono : ∀ a0 a1 a2 k,LeO (spec_GoodOperand.f k a0 a1 a2) (spec_GoodOperand.f (k + 1) a0 a1 a2) := by
 intro a0 a1 a2 k
 have ih0 := spec_GoodOperand.mono_l k
 unfold spec_GoodOperand.f
 repeat' first
   | (with_reducible exact ih0 _ _ _ _)
   | (with_reducible exact LeO.refl _)
   | (with_reducible exact LeO.none _)
   | (with_reducible refine LeO.ite ?_ ?_)
   | (with_reducible refine LeO.bind ?_ (fun _ => ?_))
set_option maxHeartbeats 8000000 in
set_option maxRecDepth 100000 in
theorem spec_GoodOperand.calls (k : Nat) (a0_0 : Int) (a0_1 : Int) (a0_2 : Int) (r : Bool) (w : World) (h : spec_GoodOperand.f k a0_0 a0_1 a0_2 = some r) :
  Calls Try.prog 86 #[.agg #[.int .i64 a0_0,.int .i64 a0_1,.int .i64 a0_2]] w fun e w' => e = .returned (.bool r) ∧ Below w.heap.size w w' := by
 have hu47 := Try.underlying47;have HB := aS (Below.refl w.heap.size w);have H : ((spec_l1In.f a0_0 0 7).bind fun t102 => (if t102 = true then ((spec_l1In.f a0_1 0 3).bind fun t103 => (if t103 = true then (if a0_0 ≥ 6 then (spec_GoodOperand.j0 k (a0_1 != 0) a0_0 a0_1 a0_2) else (spec_GoodOperand.j0 k false a0_0 a0_1 a0_2)) else (spec_GoodOperand.j0 k true a0_0 a0_1 a0_2))) else (spec_GoodOperand.j0 k true a0_0 a0_1 a0_2))) = some r := h;clear h;have HC2 := aS H;clear H;go_enter Try.func86,Try.ntmps86;go_upto_region 1 with (first | ((with_reducible refine gate_dst (N := 1) rfl ?_);refine boxE (w := w) oL (cs := #[.int .i64 a0_0,.int .i64 a0_1,.int .i64 a0_2]) (t := 47) ?_;clear HB;intro gb101 w3 HB BK101 GW101;have GE101 := GW101));(try simp only [Act.put,List.setIfInBounds_toArray,List.set_cons_zero,List.set_cons_succ]);go_cut [22] (fun v22 wc => ∃ (kq : Nat) (x22_1 : Bool),v22 = .bool x22_1 ∧ Aside0 (spec_GoodOperand.j0 kq x22_1 a0_0 a0_1 a0_2 = some r) ∧ Aside0 (kq ≤ k) ∧ Aside0 (wc.heap[gb101]? = some (.cells #[.int .i64 a0_0,.int .i64 a0_1,.int .i64 a0_2] 47 (0,0))) ∧ Aside0 (Below w.heap.size w wc))
 case first =>
  have H := HC2.out;clear HC2;obtain ⟨t102,A40,H⟩ := bE H;have A4 := aS A40;clear A40;by_cases c5 : t102 = true
  ·
   subst c5;replace H := iT H;obtain ⟨t103,A60,H⟩ := bE H;have A6 := aS A60;clear A60;by_cases c7 : t103 = true
   ·
    subst c7;replace H := iT H;by_cases c8 : a0_0 ≥ 6
    ·
     rw [if_pos c8] at H;have c8b0 : decide (6 ≤ a0_0) = true := decide_eq_true c8;clear c8;(first | rw [c8b0] | (simp only [i64_w,i32_w];rw [c8b0]) | skip);have H' := aS H;clear H;refine zz3 BK101.out ?_;intros;go_wp2_with (first | ((with_reducible refine gate_callee (f := 24) rfl ?_);refine goesQ (some 5) Try.func24 #[.int .i64 a0_0,.int .i64 0,.int .i64 7] (spec_l1In.calls a0_0 0 7 true _ A4.out) fun nd => ?_) | (go_at_call 24;(with_reducible refine (spec_l1In.calls a0_1 0 3 true _ A6.out).mono ?_);rintro e w' ⟨rfl,⟨nd,rfl⟩⟩));go_meet;case rel => exact ⟨_,((a0_1 != 0)),oE,H',⟨by first | omega | exact Nat.le_refl _⟩,⟨oB BK101.out⟩,⟨oL⟩⟩
    ·
     rw [if_neg c8] at H;have c8b0 : decide (6 ≤ a0_0) = false := decide_eq_false c8;clear c8;(first | rw [c8b0] | (simp only [i64_w,i32_w];rw [c8b0]) | skip);have H' := aS H;clear H;refine zz3 BK101.out ?_;intros;go_wp2_with (first | ((with_reducible refine gate_callee (f := 24) rfl ?_);refine goesQ (some 5) Try.func24 #[.int .i64 a0_0,.int .i64 0,.int .i64 7] (spec_l1In.calls a0_0 0 7 true _ A4.out) fun nd => ?_) | (go_at_call 24;(with_reducible refine (spec_l1In.calls a0_1 0 3 true _ A6.out).mono ?_);rintro e w' ⟨rfl,⟨nd,rfl⟩⟩));go_meet;case rel => exact ⟨_,(false),oE,H',⟨by first | omega | exact Nat.le_refl _⟩,⟨oB BK101.out⟩,⟨oL⟩⟩
   ·
    replace c7 := Bool.eq_false_iff.mpr c7;subst c7;replace H := iF H;have H' := aS H;clear H;refine zz3 BK101.out ?_;intros;go_wp2_with (first | ((with_reducible refine gate_callee (f := 24) rfl ?_);refine goesQ (some 5) Try.func24 #[.int .i64 a0_0,.int .i64 0,.int .i64 7] (spec_l1In.calls a0_0 0 7 true _ A4.out) fun nd => ?_) | (go_at_call 24;(with_reducible refine (spec_l1In.calls a0_1 0 3 false _ A6.out).mono ?_);rintro e w' ⟨rfl,⟨nd,rfl⟩⟩));go_meet;case rel => exact ⟨_,(true),oE,H',⟨by first | omega | exact Nat.le_refl _⟩,⟨oB BK101.out⟩,⟨oL⟩⟩
  ·
   replace c5 := Bool.eq_false_iff.mpr c5;subst c5;replace H := iF H;have H' := aS H;clear H;refine zz3 BK101.out ?_;intros;go_wp2_with (first | ((with_reducible refine gate_callee (f := 24) rfl ?_);refine goesQ (some 5) Try.func24 #[.int .i64 a0_0,.int .i64 0,.int .i64 7] (spec_l1In.calls a0_0 0 7 false _ A4.out) fun nd => ?_));go_meet;case rel => exact ⟨_,(true),oE,H',⟨by first | omega | exact Nat.le_refl _⟩,⟨oB BK101.out⟩,⟨oL⟩⟩
 case rest =>
  clear HC2;obtain ⟨kq,x22_1,rfl,HA,HJ1,BK101,HB⟩ := hcut;cases kq with
  | zero => exact absurd HA.out (by simp [spec_GoodOperand.j0])
  | succ kj1 =>
   have H := HA.out;clear HA;simp only [spec_GoodOperand.j0] at H;by_cases c13 : x22_1 = true;{subst c13;replace H := iT H;obtain rfl := Option.some.inj H;go_wp2;go_ret;exact ⟨oE,oL⟩}
   ·
    replace c13 := Bool.eq_false_iff.mpr c13;subst c13;replace H := iF H;obtain ⟨t104,A140,H⟩ := bE H;have A14 := aS A140;clear A140;by_cases c15 : t104 = true
    ·
     subst c15;replace H := iT H;obtain ⟨t105,A160,H⟩ := bE H;have A16 := aS A160;clear A160;by_cases c17 : t105 = true
     ·
      subst c17;replace H := iT H;obtain rfl := Option.some.inj H;refine zz3 BK101.out ?_;intros;go_wp2_with (first | ((with_reducible refine gate_callee (f := 105) rfl ?_);refine goesQ (some 25) Try.func105 #[.int .i64 a0_2] (spec_l6Word.calls a0_2 true _ A14.out) fun nd => ?_) | (go_at_call 84;(with_reducible refine (spec_l6Ext.calls a0_0 true _ A16.out).mono ?_);rintro e w' ⟨rfl,⟨nd,rfl⟩⟩));go_ret;exact ⟨oE,oL⟩
     ·
      replace c17 := Bool.eq_false_iff.mpr c17;subst c17;replace H := iF H;obtain rfl := Option.some.inj H;refine zz3 BK101.out ?_;intros;go_wp2_with (first | ((with_reducible refine gate_callee (f := 105) rfl ?_);refine goesQ (some 25) Try.func105 #[.int .i64 a0_2] (spec_l6Word.calls a0_2 true _ A14.out) fun nd => ?_) | (go_at_call 84;(with_reducible refine (spec_l6Ext.calls a0_0 false _ A16.out).mono ?_);rintro e w' ⟨rfl,⟨nd,rfl⟩⟩));go_ret;exact ⟨oE,oL⟩
    ·
     replace c15 := Bool.eq_false_iff.mpr c15;subst c15;replace H := iF H;obtain rfl := Option.some.inj H;refine zz3 BK101.out ?_;intros;go_wp2_with (first | ((with_reducible refine gate_callee (f := 105) rfl ?_);refine goesQ (some 25) Try.func105 #[.int .i64 a0_2] (spec_l6Word.calls a0_2 false _ A14.out) fun nd => ?_));go_ret;exact ⟨oE,oL⟩

/-! ### spec_l7Memory: function 87 -/
def spec_l7Memory.f (a0 : Int) : Option (Bool) := (spec_l1In.f a0 2 6).bind fun t101 => (some t101)
set_option maxHeartbeats 8000000 in
set_option maxRecDepth 100000 in
theorem spec_l7Memory.calls (a0 : Int) (r : Bool) (w : World) (h : spec_l7Memory.f a0 = some r) :
  Calls Try.prog 87 #[.int .i64 a0] w fun e w' => e = .returned (.bool r) ∧ Drawn0 w w' := by
 have H : ((spec_l1In.f a0 2 6).bind fun t101 => (some t101)) = some r := h;clear h;obtain ⟨t101,A20,H⟩ := bE H;have A2 := aS A20;clear A20;obtain rfl := Option.some.inj H;go_enter Try.func87,Try.ntmps87;go_wp2_with (first | ((with_reducible refine gate_callee (f := 24) rfl ?_);refine goesQ (some 4) Try.func24 #[.int .i64 a0,.int .i64 2,.int .i64 6] (spec_l1In.calls a0 2 6 t101 _ A2.out) fun nd => ?_));go_ret;exact ⟨by first | rfl | (simp;done) | (simp [*];done),by repeat (first | exact Drawn0.refl _ | apply Drawn0.step)⟩

/-! ### spec_l7Plain: function 88 -/
def spec_l7Plain.f (a0 : Int) : Option (Bool) := if a0 = 2 then (some true) else (if a0 = 5 then (some true) else (some (a0 == 6)))
set_option maxHeartbeats 8000000 in
set_option maxRecDepth 100000 in
theorem spec_l7Plain.calls (a0 : Int) (r : Bool) (w : World) (h : spec_l7Plain.f a0 = some r) :
  Calls Try.prog 88 #[.int .i64 a0] w fun e w' => e = .returned (.bool r) ∧ Drawn0 w w' := by
 have H : (if a0 = 2 then (some true) else (if a0 = 5 then (some true) else (some (a0 == 6)))) = some r := h;clear h;by_cases c2 : a0 = 2;{rw [if_pos c2] at H;obtain ⟨c2b0,c2b1⟩ := eT c2;clear c2;obtain rfl := Option.some.inj H;go_enter Try.func88,Try.ntmps88;go_wp2;go_ret;exact ⟨by first | rfl | (simp;done) | (simp [*];done),by repeat (first | exact Drawn0.refl _ | apply Drawn0.step)⟩}
 ·
  rw [if_neg c2] at H;obtain ⟨c2b0,c2b1⟩ := eF c2;by_cases c3 : a0 = 5;{rw [if_pos c3] at H;obtain ⟨c3b0,c3b1⟩ := eT c3;clear c3;obtain rfl := Option.some.inj H;go_enter Try.func88,Try.ntmps88;go_wp2;go_ret;exact ⟨by first | rfl | (simp;done) | (simp [*];done),by repeat (first | exact Drawn0.refl _ | apply Drawn0.step)⟩};{rw [if_neg c3] at H;obtain ⟨c3b0,c3b1⟩ := eF c3;obtain rfl := Option.some.inj H;go_enter Try.func88,Try.ntmps88;go_wp2;go_ret;exact ⟨by first | rfl | (simp;done) | (simp [*];done),by repeat (first | exact Drawn0.refl _ | apply Drawn0.step)⟩}

/-! ### spec_l7Now: function 89 -/
def spec_l7Now.f (a0_0 : Int) (a0_1 : Int) (a0_2 : Int) : Option (Bool) := if a0_0 = 7 then (some (decide (a0_2 ≤ 1023))) else (some false)
set_option maxHeartbeats 8000000 in
set_option maxRecDepth 100000 in
theorem spec_l7Now.calls (a0_0 : Int) (a0_1 : Int) (a0_2 : Int) (r : Bool) (w : World) (h : spec_l7Now.f a0_0 a0_1 a0_2 = some r) :
  Calls Try.prog 89 #[.agg #[.int .i64 a0_0,.int .i64 a0_1,.int .i64 a0_2]] w fun e w' => e = .returned (.bool r) ∧ Below w.heap.size w w' := by
 have hu47 := Try.underlying47;have HB := aS (Below.refl w.heap.size w);have H : (if a0_0 = 7 then (some (decide (a0_2 ≤ 1023))) else (some false)) = some r := h;clear h;by_cases c2 : a0_0 = 7
 ·
  rw [if_pos c2] at H;obtain ⟨c2b0,c2b1⟩ := eT c2;clear c2;obtain rfl := Option.some.inj H;go_enter Try.func89,Try.ntmps89;go_wp2_with (first | ((with_reducible refine gate_dst (N := 1) rfl ?_);refine boxE (w := w) oL (cs := #[.int .i64 a0_0,.int .i64 a0_1,.int .i64 a0_2]) (t := 47) ?_;clear HB;intro gb101 w3 HB BK101 GW101;have GE101 := GW101;refine zz3 BK101.out ?_;intros));go_ret;exact ⟨oE,oL⟩
 ·
  rw [if_neg c2] at H;obtain ⟨c2b0,c2b1⟩ := eF c2;obtain rfl := Option.some.inj H;go_enter Try.func89,Try.ntmps89;go_wp2_with (first | ((with_reducible refine gate_dst (N := 1) rfl ?_);refine boxE (w := w) oL (cs := #[.int .i64 a0_0,.int .i64 a0_1,.int .i64 a0_2]) (t := 47) ?_;clear HB;intro gb101 w5 HB BK101 GW101;have GE101 := GW101;refine zz3 BK101.out ?_;intros));go_ret;exact ⟨oE,oL⟩

/-! ### spec_l7Zero: function 90 -/
def spec_l7Zero.f (a0_0 : Int) (a0_1 : Int) (a0_2 : Int) : Option (Bool) := some (a0_0 == 0 && (a0_1 == 0 && (a0_2 == 0)))
set_option maxHeartbeats 8000000 in
set_option maxRecDepth 100000 in
theorem spec_l7Zero.calls (a0_0 : Int) (a0_1 : Int) (a0_2 : Int) (r : Bool) (w : World) (h : spec_l7Zero.f a0_0 a0_1 a0_2 = some r) :
  Calls Try.prog 90 #[.agg #[.int .i64 a0_0,.int .i64 a0_1,.int .i64 a0_2]] w fun e w' => e = .returned (.bool r) ∧ Below w.heap.size w w' := by
 have hu47 := Try.underlying47;have HB := aS (Below.refl w.heap.size w);have H : (some (a0_0 == 0 && (a0_1 == 0 && (a0_2 == 0)))) = some r := h;clear h;obtain rfl := Option.some.inj H;go_enter Try.func90,Try.ntmps90;go_wp2_with (first | ((with_reducible refine gate_dst (N := 1) rfl ?_);refine boxE (w := w) oL (cs := #[.int .i64 a0_0,.int .i64 a0_1,.int .i64 a0_2]) (t := 47) ?_;clear HB;intro gb101 w2 HB BK101 GW101;have GE101 := GW101;refine zz3 BK101.out ?_;intros));go_ret;exact ⟨oE,oL⟩

end Go.Proofs.Ytapfngfaiojmhaa.R
