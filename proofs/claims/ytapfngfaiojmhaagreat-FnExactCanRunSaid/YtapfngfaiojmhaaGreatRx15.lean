-- Made by this session's program gprint.py out of the translation. Not trusted: Lean checks it.
import Derived.Test.YtapfngfaiojmhaaGreatRx0
import Derived.Test.YtapfngfaiojmhaaGreatRx14
namespace Go.Proofs.YtapfngfaiojmhaaGreat.R
open Go.RowKit Go.Proofs.YtapfngfaiojmhaaGreatW.PrintWords Go.Proofs.YtapfngfaiojmhaaGreatW.PrintLast Go.Proofs.YtapfngfaiojmhaaGreatW.PrintMore
attribute [local go_sem] max2_int min2_int max_two min_two max_three min_three max_four min_four   -- for this text's walks alone
set_option linter.unusedVariables false
set_option linter.unusedSimpArgs false

/-! ### impl_isValue: function 92 -/
def impl_isValue.f (a0 : Int) (a1 : Int) : Option (Bool) := (impl_isSize.f a0).bind fun t101 => (if t101 = true then ((impl_limitOf.f a0).bind fun t102 => ((impl_within.f a1 0 (wrap64 (t102 - 1))).bind fun t103 => (some t103))) else (some false))
set_option maxHeartbeats 8000000 in
set_option maxRecDepth 100000 in
theorem impl_isValue.calls (a0 : Int) (a1 : Int) (r : Bool) (w : World) (h : impl_isValue.f a0 a1 = some r) :
  Calls Tryz.prog 92 #[.int .i64 a0,.int .i64 a1] w fun e w' => e = .returned (.bool r) ∧ Drawn0 w w' := by
 have H : ((impl_isSize.f a0).bind fun t101 => (if t101 = true then ((impl_limitOf.f a0).bind fun t102 => ((impl_within.f a1 0 (wrap64 (t102 - 1))).bind fun t103 => (some t103))) else (some false))) = some r := h;clear h;obtain ⟨t101,A30,H⟩ := bE H;have A3 := aS A30;clear A30;by_cases c4 : t101 = true
 ·
  subst c4;replace H := iT H;obtain ⟨t102,A50,H⟩ := bE H;have A5 := aS A50;clear A50;obtain ⟨t103,A60,H⟩ := bE H;have A6 := aS A60;clear A60;obtain rfl := Option.some.inj H;go_enter Tryz.func92,Tryz.ntmps92;go_wp2_with (first | ((with_reducible refine gate_callee (f := 74) rfl ?_);refine goesQ (some 6) Tryz.func74 #[.int .i64 a0] (impl_isSize.calls a0 true _ A3.out) fun nd => ?_) | (go_at_call 105;(with_reducible refine (impl_limitOf.calls a0 t102 _ A5.out).mono ?_);rintro e w' ⟨rfl,⟨nd,rfl⟩⟩) | (go_at_call 42;(with_reducible refine (impl_within.calls a1 0 (wrap64 (t102 - 1)) t103 _ A6.out).mono ?_);rintro e w' ⟨rfl,⟨nd,rfl⟩⟩));go_ret;exact ⟨by first | rfl | (simp;done) | (simp [*];done),by repeat (first | exact Drawn0.refl _ | apply Drawn0.step)⟩
 ·
  replace c4 := Bool.eq_false_iff.mpr c4;subst c4;replace H := iF H;obtain rfl := Option.some.inj H;go_enter Tryz.func92,Tryz.ntmps92;go_wp2_with (first | ((with_reducible refine gate_callee (f := 74) rfl ?_);refine goesQ (some 6) Tryz.func74 #[.int .i64 a0] (impl_isSize.calls a0 false _ A3.out) fun nd => ?_));go_ret;exact ⟨by first | rfl | (simp;done) | (simp [*];done),by repeat (first | exact Drawn0.refl _ | apply Drawn0.step)⟩

/-! ### impl_isAccess: function 73 -/
def impl_isAccess.f (a0_0 : Int) (a0_1 : Int) (a0_2 : Int) (a0_3 : Int) (a0_4 : Int) : Option (Bool) := (impl_within.f a0_0 1 3).bind fun t102 => (if t102 = true then ((impl_isWord.f a0_2).bind fun t103 => (if t103 = true then ((impl_isValue.f a0_1 a0_3).bind fun t104 => (if t104 = true then ((impl_within.f a0_4 0 3).bind fun t105 => (if t105 = true then (if a0_0 = 3 then (some (!(a0_4 == 0))) else (some (!false))) else (some false))) else (some false))) else (some false))) else (some false))
set_option maxHeartbeats 8000000 in
set_option maxRecDepth 100000 in
theorem impl_isAccess.calls (a0_0 : Int) (a0_1 : Int) (a0_2 : Int) (a0_3 : Int) (a0_4 : Int) (r : Bool) (w : World) (h : impl_isAccess.f a0_0 a0_1 a0_2 a0_3 a0_4 = some r) :
  Calls Tryz.prog 73 #[.agg #[.int .i64 a0_0,.int .i64 a0_1,.int .i64 a0_2,.int .i64 a0_3,.int .i64 a0_4]] w fun e w' => e = .returned (.bool r) ∧ Below w.heap.size w w' := by
 have hu97 := Tryz.underlying97;have HB := aS (Below.refl w.heap.size w);have H : ((impl_within.f a0_0 1 3).bind fun t102 => (if t102 = true then ((impl_isWord.f a0_2).bind fun t103 => (if t103 = true then ((impl_isValue.f a0_1 a0_3).bind fun t104 => (if t104 = true then ((impl_within.f a0_4 0 3).bind fun t105 => (if t105 = true then (if a0_0 = 3 then (some (!(a0_4 == 0))) else (some (!false))) else (some false))) else (some false))) else (some false))) else (some false))) = some r := h;clear h;obtain ⟨t102,A20,H⟩ := bE H;have A2 := aS A20;clear A20;by_cases c3 : t102 = true
 ·
  subst c3;replace H := iT H;obtain ⟨t103,A40,H⟩ := bE H;have A4 := aS A40;clear A40;by_cases c5 : t103 = true
  ·
   subst c5;replace H := iT H;obtain ⟨t104,A60,H⟩ := bE H;have A6 := aS A60;clear A60;by_cases c7 : t104 = true
   ·
    subst c7;replace H := iT H;obtain ⟨t105,A80,H⟩ := bE H;have A8 := aS A80;clear A80;by_cases c9 : t105 = true
    ·
     subst c9;replace H := iT H;by_cases c10 : a0_0 = 3
     ·
      rw [if_pos c10] at H;obtain ⟨c10b0,c10b1⟩ := eT c10;clear c10;obtain rfl := Option.some.inj H;go_enter Tryz.func73,Tryz.ntmps73;go_wp2_with (first | ((with_reducible refine gate_dst (N := 1) rfl ?_);refine boxE (w := w) oL (cs := #[.int .i64 a0_0,.int .i64 a0_1,.int .i64 a0_2,.int .i64 a0_3,.int .i64 a0_4]) (t := 97) ?_;clear HB;intro gb101 w11 HB BK101 GW101;have GE101 := GW101;refine zz5 BK101.out ?_;intros) | ((with_reducible refine gate_callee (f := 42) rfl ?_);refine goesQ (some 5) Tryz.func42 #[.int .i64 a0_0,.int .i64 1,.int .i64 3] (impl_within.calls a0_0 1 3 true _ A2.out) fun nd => ?_) | (go_at_call 67;(with_reducible refine (impl_isWord.calls a0_2 true _ A4.out).mono ?_);rintro e w' ⟨rfl,⟨nd,rfl⟩⟩) | (go_at_call 92;(with_reducible refine (impl_isValue.calls a0_1 a0_3 true _ A6.out).mono ?_);rintro e w' ⟨rfl,⟨nd,rfl⟩⟩) | (go_at_call 42;(with_reducible refine (impl_within.calls a0_4 0 3 true _ A8.out).mono ?_);rintro e w' ⟨rfl,⟨nd,rfl⟩⟩));go_ret;exact ⟨oE,oL⟩
     ·
      rw [if_neg c10] at H;obtain ⟨c10b0,c10b1⟩ := eF c10;obtain rfl := Option.some.inj H;go_enter Tryz.func73,Tryz.ntmps73;go_wp2_with (first | ((with_reducible refine gate_dst (N := 1) rfl ?_);refine boxE (w := w) oL (cs := #[.int .i64 a0_0,.int .i64 a0_1,.int .i64 a0_2,.int .i64 a0_3,.int .i64 a0_4]) (t := 97) ?_;clear HB;intro gb101 w13 HB BK101 GW101;have GE101 := GW101;refine zz5 BK101.out ?_;intros) | ((with_reducible refine gate_callee (f := 42) rfl ?_);refine goesQ (some 5) Tryz.func42 #[.int .i64 a0_0,.int .i64 1,.int .i64 3] (impl_within.calls a0_0 1 3 true _ A2.out) fun nd => ?_) | (go_at_call 67;(with_reducible refine (impl_isWord.calls a0_2 true _ A4.out).mono ?_);rintro e w' ⟨rfl,⟨nd,rfl⟩⟩) | (go_at_call 92;(with_reducible refine (impl_isValue.calls a0_1 a0_3 true _ A6.out).mono ?_);rintro e w' ⟨rfl,⟨nd,rfl⟩⟩) | (go_at_call 42;(with_reducible refine (impl_within.calls a0_4 0 3 true _ A8.out).mono ?_);rintro e w' ⟨rfl,⟨nd,rfl⟩⟩));go_ret;exact ⟨oE,oL⟩
    ·
     replace c9 := Bool.eq_false_iff.mpr c9;subst c9;replace H := iF H;obtain rfl := Option.some.inj H;go_enter Tryz.func73,Tryz.ntmps73;go_wp2_with (first | ((with_reducible refine gate_dst (N := 1) rfl ?_);refine boxE (w := w) oL (cs := #[.int .i64 a0_0,.int .i64 a0_1,.int .i64 a0_2,.int .i64 a0_3,.int .i64 a0_4]) (t := 97) ?_;clear HB;intro gb101 w15 HB BK101 GW101;have GE101 := GW101;refine zz5 BK101.out ?_;intros) | ((with_reducible refine gate_callee (f := 42) rfl ?_);refine goesQ (some 5) Tryz.func42 #[.int .i64 a0_0,.int .i64 1,.int .i64 3] (impl_within.calls a0_0 1 3 true _ A2.out) fun nd => ?_) | (go_at_call 67;(with_reducible refine (impl_isWord.calls a0_2 true _ A4.out).mono ?_);rintro e w' ⟨rfl,⟨nd,rfl⟩⟩) | (go_at_call 92;(with_reducible refine (impl_isValue.calls a0_1 a0_3 true _ A6.out).mono ?_);rintro e w' ⟨rfl,⟨nd,rfl⟩⟩) | (go_at_call 42;(with_reducible refine (impl_within.calls a0_4 0 3 false _ A8.out).mono ?_);rintro e w' ⟨rfl,⟨nd,rfl⟩⟩));go_ret;exact ⟨oE,oL⟩
   ·
    replace c7 := Bool.eq_false_iff.mpr c7;subst c7;replace H := iF H;obtain rfl := Option.some.inj H;go_enter Tryz.func73,Tryz.ntmps73;go_wp2_with (first | ((with_reducible refine gate_dst (N := 1) rfl ?_);refine boxE (w := w) oL (cs := #[.int .i64 a0_0,.int .i64 a0_1,.int .i64 a0_2,.int .i64 a0_3,.int .i64 a0_4]) (t := 97) ?_;clear HB;intro gb101 w17 HB BK101 GW101;have GE101 := GW101;refine zz5 BK101.out ?_;intros) | ((with_reducible refine gate_callee (f := 42) rfl ?_);refine goesQ (some 5) Tryz.func42 #[.int .i64 a0_0,.int .i64 1,.int .i64 3] (impl_within.calls a0_0 1 3 true _ A2.out) fun nd => ?_) | (go_at_call 67;(with_reducible refine (impl_isWord.calls a0_2 true _ A4.out).mono ?_);rintro e w' ⟨rfl,⟨nd,rfl⟩⟩) | (go_at_call 92;(with_reducible refine (impl_isValue.calls a0_1 a0_3 false _ A6.out).mono ?_);rintro e w' ⟨rfl,⟨nd,rfl⟩⟩));go_ret;exact ⟨oE,oL⟩
  ·
   replace c5 := Bool.eq_false_iff.mpr c5;subst c5;replace H := iF H;obtain rfl := Option.some.inj H;go_enter Tryz.func73,Tryz.ntmps73;go_wp2_with (first | ((with_reducible refine gate_dst (N := 1) rfl ?_);refine boxE (w := w) oL (cs := #[.int .i64 a0_0,.int .i64 a0_1,.int .i64 a0_2,.int .i64 a0_3,.int .i64 a0_4]) (t := 97) ?_;clear HB;intro gb101 w19 HB BK101 GW101;have GE101 := GW101;refine zz5 BK101.out ?_;intros) | ((with_reducible refine gate_callee (f := 42) rfl ?_);refine goesQ (some 5) Tryz.func42 #[.int .i64 a0_0,.int .i64 1,.int .i64 3] (impl_within.calls a0_0 1 3 true _ A2.out) fun nd => ?_) | (go_at_call 67;(with_reducible refine (impl_isWord.calls a0_2 false _ A4.out).mono ?_);rintro e w' ⟨rfl,⟨nd,rfl⟩⟩));go_ret;exact ⟨oE,oL⟩
 ·
  replace c3 := Bool.eq_false_iff.mpr c3;subst c3;replace H := iF H;obtain rfl := Option.some.inj H;go_enter Tryz.func73,Tryz.ntmps73;go_wp2_with (first | ((with_reducible refine gate_dst (N := 1) rfl ?_);refine boxE (w := w) oL (cs := #[.int .i64 a0_0,.int .i64 a0_1,.int .i64 a0_2,.int .i64 a0_3,.int .i64 a0_4]) (t := 97) ?_;clear HB;intro gb101 w21 HB BK101 GW101;have GE101 := GW101;refine zz5 BK101.out ?_;intros) | ((with_reducible refine gate_callee (f := 42) rfl ?_);refine goesQ (some 5) Tryz.func42 #[.int .i64 a0_0,.int .i64 1,.int .i64 3] (impl_within.calls a0_0 1 3 false _ A2.out) fun nd => ?_));go_ret;exact ⟨oE,oL⟩

/-! ### impl_GoodBus_2: function 72 -/
def impl_GoodBus_2.f (a0_0 : Int) (a0_1 : Int) (a0_2 : Int) (a0_3 : Int) (a0_4 : Int) : Option (Bool) := (impl_isAccess.f a0_0 a0_1 a0_2 a0_3 a0_4).bind fun t102 => (some (!t102))
set_option maxHeartbeats 8000000 in
set_option maxRecDepth 100000 in
theorem impl_GoodBus_2.calls (a0_0 : Int) (a0_1 : Int) (a0_2 : Int) (a0_3 : Int) (a0_4 : Int) (r : Bool) (w : World) (h : impl_GoodBus_2.f a0_0 a0_1 a0_2 a0_3 a0_4 = some r) :
  Calls Tryz.prog 72 #[.agg #[.int .i64 a0_0,.int .i64 a0_1,.int .i64 a0_2,.int .i64 a0_3,.int .i64 a0_4]] w fun e w' => e = .returned (.bool r) ∧ Below w.heap.size w w' := by
 have hu97 := Tryz.underlying97;have HB := aS (Below.refl w.heap.size w);have H : ((impl_isAccess.f a0_0 a0_1 a0_2 a0_3 a0_4).bind fun t102 => (some (!t102))) = some r := h;clear h;obtain ⟨t102,A20,H⟩ := bE H;have A2 := aS A20;clear A20;obtain rfl := Option.some.inj H;go_enter Tryz.func72,Tryz.ntmps72;go_wp2_with (first | ((with_reducible refine gate_dst (N := 1) rfl ?_);refine boxE (w := w) oL (cs := #[.int .i64 a0_0,.int .i64 a0_1,.int .i64 a0_2,.int .i64 a0_3,.int .i64 a0_4]) (t := 97) ?_;clear HB;intro gb101 w3 HB BK101 GW101;have GE101 := GW101;refine zz5 BK101.out ?_;intros) | ((with_reducible refine gate_callee (f := 73) rfl ?_);refine goesL_ (some 4) rfl rfl Tryz.func73 (by kernel_rfl) rfl #[.agg #[.int .i64 a0_0,.int .i64 a0_1,.int .i64 a0_2,.int .i64 a0_3,.int .i64 a0_4]] rfl oA ?_;(with_reducible refine (impl_isAccess.calls a0_0 a0_1 a0_2 a0_3 a0_4 t102 _ A2.out).mono ?_);rintro e w5 ⟨rfl,hb⟩;refine ⟨_,rfl,?_⟩;refine mk2 (blk_below (oB BK101.out) hb) (below_step oL hb) ?_;clear BK101 HB;intro BK101 HB));go_ret;exact ⟨oE,oL⟩

/-! ### slices_IndexFunc_90_g70: function 90 -/
def slices_IndexFunc_90_g70.l0 : Nat → List Int → Int → Int → Option (Int)
 | 0,_,_,_ => none
 | k + 1,x0,x7,x8 => if x8 < x7 then (if 0 ≤ x8 then (if x8 < (x0.length : Int) then ((impl_GoodBus_1.f (rd x0 x8)).bind fun t102 => (if t102 = true then (some x8) else (slices_IndexFunc_90_g70.l0 k x0 x7 (wrap64 (x8 + 1))))) else (none)) else (none)) else (some (-1))
def slices_IndexFunc_90_g70.f (k : Nat) (l0 : List Int)  : Option (Int) := slices_IndexFunc_90_g70.l0 k l0 (l0.length : Int) 0
theorem slices_IndexFunc_90_g70.mono_l : ∀ k,(∀ y0 y1 y2,LeO (slices_IndexFunc_90_g70.l0 k y0 y1 y2) (slices_IndexFunc_90_g70.l0 (k + 1) y0 y1 y2))
 | 0 => fun _ _ _ r h => by simp [slices_IndexFunc_90_g70.l0] at h
 | k + 1 => by
  have ih0 := slices_IndexFunc_90_g70.mono_l k
  ·
   intro y0 y1 y2
   unfold slices_IndexFunc_90_g70.l0
   repeat' first
   | (with_reducible exact ih0 _ _ _)
   | (with_reducible exact LeO.refl _)
   | (with_reducible exact LeO.none _)
   | (with_reducible refine LeO.ite ?_ ?_)
   | (with_reducible refine LeO.bind ?_ (fun _ => ?_))
theorem slices_IndexFunc_90_g70.mono : ∀ a0 k,LeO (slices_IndexFunc_90_g70.f k a0) (slices_IndexFunc_90_g70.f (k + 1) a0) := by
 intro a0 k
 have ih0 := slices_IndexFunc_90_g70.mono_l k
 unfold slices_IndexFunc_90_g70.f
 repeat' first
   | (with_reducible exact ih0 _ _ _)
   | (with_reducible exact LeO.refl _)
   | (with_reducible exact LeO.none _)
   | (with_reducible refine LeO.ite ?_ ?_)
   | (with_reducible refine LeO.bind ?_ (fun _ => ?_))
set_option maxHeartbeats 8000000 in
set_option maxRecDepth 100000 in
theorem slices_IndexFunc_90_g70.calls (k : Nat) (A0 : Option Addr) (c0 : Nat) (l0 : List Int)  (r : Int) (w : World) (hr0 : Kd.C (Kd.int .i64) w A0 l0.length l0) (hc0 : l0.length ≤ c0) (h : slices_IndexFunc_90_g70.f k l0 = some r) :
  Calls Tryz.prog 90 #[.slice A0 l0.length c0,(.func (.func 70) #[] #[])] w fun e w' => e = .returned (.int .i64 r) ∧ Drawn0 w w' := by
 have HR0 := aS hr0;have HC0 := aS hc0;clear hr0 hc0;have H : (slices_IndexFunc_90_g70.l0 k l0 (l0.length : Int) 0) = some r := h;clear h;have H' := aS H;clear H;go_enter Tryz.func90,Tryz.ntmps90;go_wp2;go_loopg [8] k (fun kq v8 w' => ∃ (x8_1 : Int),v8 = .int .i64 x8_1 ∧ Aside0 (slices_IndexFunc_90_g70.l0 kq l0 (l0.length : Int) x8_1 = some r) ∧ Aside0 (kq ≤ k) ∧ Drawn0 w w')
 case atStart => exact ⟨(0),oE,H',⟨Nat.le_refl _⟩,by repeat (first | exact Drawn0.refl _ | apply Drawn0.step)⟩
 case round =>
  clear H';obtain ⟨x8_1,rfl,HA,HK1,⟨m1,rfl⟩⟩ := hrel;cases gk with
  | zero => exact absurd HA.out (by simp [slices_IndexFunc_90_g70.l0])
  | succ k1 =>
   have H := HA.out;clear HA;simp only [slices_IndexFunc_90_g70.l0] at H;by_cases c3 : x8_1 < (l0.length : Int)
   ·
    rw [if_pos c3] at H;have c3b0 : decide (x8_1 < (l0.length : Int)) = true := decide_eq_true c3;clear c3;by_cases c4 : 0 ≤ x8_1
    ·
     rw [if_pos c4] at H;have c4b0 : decide (0 ≤ x8_1) = true := decide_eq_true c4;clear c4;by_cases c5 : x8_1 < (l0.length : Int)
     ·
      rw [if_pos c5] at H;have c5b0 : decide (x8_1 < (l0.length : Int)) = true := decide_eq_true c5;clear c5;obtain ⟨t102,A60,H⟩ := bE H;have A6 := aS A60;clear A60;by_cases c7 : t102 = true
      ·
       subst c7;replace H := iT H;obtain rfl := Option.some.inj H;have p101 : 0 ≤ (x8_1 : Int) := of_decide_eq_true (by first | (with_reducible assumption) | assumption);have q101 : x8_1 < (l0.length : Int) := of_decide_eq_true (by first | (with_reducible assumption) | assumption);obtain ⟨ad101,e101,hx101_0⟩ := Kd.at_int HR0.out x8_1 p101 q101;cases e101
       replace p101 := eq_true p101;replace q101 := eq_true q101;go_wp2_with (first | (go_at_call 70;(with_reducible refine (impl_GoodBus_1.calls (rd l0 x8_1) true _ A6.out).mono ?_);rintro e w' ⟨rfl,⟨nd,rfl⟩⟩));go_ret;exact ⟨by first | rfl | (simp;done) | (simp [*];done),by repeat (first | exact Drawn0.refl _ | apply Drawn0.step)⟩
      ·
       replace c7 := Bool.eq_false_iff.mpr c7;subst c7;replace H := iF H;have H' := aS H;clear H;have p101 : 0 ≤ (x8_1 : Int) := of_decide_eq_true (by first | (with_reducible assumption) | assumption);have q101 : x8_1 < (l0.length : Int) := of_decide_eq_true (by first | (with_reducible assumption) | assumption);obtain ⟨ad101,e101,hx101_0⟩ := Kd.at_int HR0.out x8_1 p101 q101;cases e101
       replace p101 := eq_true p101;replace q101 := eq_true q101;go_wp2_with (first | (go_at_call 70;(with_reducible refine (impl_GoodBus_1.calls (rd l0 x8_1) false _ A6.out).mono ?_);rintro e w' ⟨rfl,⟨nd,rfl⟩⟩));go_roundg k1;case measure => have := HK1.out;omega
       case rel => exact ⟨(wrap64 (x8_1 + 1)),oE,H',⟨by have := HK1.out;omega⟩,by repeat (first | exact Drawn0.refl _ | apply Drawn0.step)⟩
     · rw [if_neg c5] at H;exact absurd H (by simp)
    · rw [if_neg c4] at H;exact absurd H (by simp)
   · rw [if_neg c3] at H;have c3b0 : decide (x8_1 < (l0.length : Int)) = false := decide_eq_false c3;clear c3;obtain rfl := Option.some.inj H;go_wp2;go_ret;exact ⟨by first | rfl | (simp;done) | (simp [*];done),by repeat (first | exact Drawn0.refl _ | apply Drawn0.step)⟩

/-! ### slices_ContainsFunc_69_g70: function 69 -/
def slices_ContainsFunc_69_g70.f (k : Nat) (l0 : List Int)  : Option (Bool) := (slices_IndexFunc_90_g70.f k l0).bind fun t101 => (some (decide (t101 ≥ 0)))
theorem slices_ContainsFunc_69_g70.mono : ∀ a0 k,LeO (slices_ContainsFunc_69_g70.f k a0) (slices_ContainsFunc_69_g70.f (k + 1) a0) := by
 intro a0 k
 unfold slices_ContainsFunc_69_g70.f
 repeat' first
   | (with_reducible exact slices_IndexFunc_90_g70.mono _ _)
   | (with_reducible exact LeO.refl _)
   | (with_reducible exact LeO.none _)
   | (with_reducible refine LeO.ite ?_ ?_)
   | (with_reducible refine LeO.bind ?_ (fun _ => ?_))
set_option maxHeartbeats 8000000 in
set_option maxRecDepth 100000 in
theorem slices_ContainsFunc_69_g70.calls (k : Nat) (A0 : Option Addr) (c0 : Nat) (l0 : List Int)  (r : Bool) (w : World) (hr0 : Kd.C (Kd.int .i64) w A0 l0.length l0) (hc0 : l0.length ≤ c0) (h : slices_ContainsFunc_69_g70.f k l0 = some r) :
  Calls Tryz.prog 69 #[.slice A0 l0.length c0,(.func (.func 70) #[] #[])] w fun e w' => e = .returned (.bool r) ∧ Drawn0 w w' := by
 have HR0 := aS hr0;have HC0 := aS hc0;clear hr0 hc0;have H : ((slices_IndexFunc_90_g70.f k l0).bind fun t101 => (some (decide (t101 ≥ 0)))) = some r := h;clear h;obtain ⟨t101,A30,H⟩ := bE H;have A3 := aS A30;clear A30;obtain rfl := Option.some.inj H;go_enter Tryz.func69,Tryz.ntmps69;go_wp2_with (first | (go_at_call 90;(with_reducible refine (slices_IndexFunc_90_g70.calls k _ _ l0 t101 _ ?side1 ?side2 A3.out).mono ?_);(case side1 => repeat (first | exact HR0.out | (with_reducible refine Kd.C_alloc ?_ _) | (with_reducible refine Kd.C_drewN ?_ _) | (with_reducible refine Kd.C_drew ?_)));(case side2 => exact HC0.out);rintro e w' ⟨rfl,⟨nd,rfl⟩⟩));go_ret;exact ⟨by first | rfl | (simp;done) | (simp [*];done),by repeat (first | exact Drawn0.refl _ | apply Drawn0.step)⟩

/-! ### slices_IndexFunc_91_g72: function 91 -/
def slices_IndexFunc_91_g72.l0 : Nat → List (S97) → Int → Int → Option (Int)
 | 0,_,_,_ => none
 | k + 1,x0,x7,x8 => if x8 < x7 then (if 0 ≤ x8 then (if x8 < (x0.length : Int) then ((impl_GoodBus_2.f ((rd_T97 x0 x8).f0) ((rd_T97 x0 x8).f1) ((rd_T97 x0 x8).f2) ((rd_T97 x0 x8).f3) ((rd_T97 x0 x8).f4)).bind fun t102 => (if t102 = true then (some x8) else (slices_IndexFunc_91_g72.l0 k x0 x7 (wrap64 (x8 + 1))))) else (none)) else (none)) else (some (-1))
def slices_IndexFunc_91_g72.f (k : Nat) (l0 : List (S97))  : Option (Int) := slices_IndexFunc_91_g72.l0 k l0 (l0.length : Int) 0
theorem slices_IndexFunc_91_g72.mono_l : ∀ k,(∀ y0 y1 y2,LeO (slices_IndexFunc_91_g72.l0 k y0 y1 y2) (slices_IndexFunc_91_g72.l0 (k + 1) y0 y1 y2))
 | 0 => fun _ _ _ r h => by simp [slices_IndexFunc_91_g72.l0] at h
 | k + 1 => by
  have ih0 := slices_IndexFunc_91_g72.mono_l k
  ·
   intro y0 y1 y2
   unfold slices_IndexFunc_91_g72.l0
   repeat' first
   | (with_reducible exact ih0 _ _ _)
   | (with_reducible exact LeO.refl _)
   | (with_reducible exact LeO.none _)
   | (with_reducible refine LeO.ite ?_ ?_)
   | (with_reducible refine LeO.bind ?_ (fun _ => ?_))
theorem slices_IndexFunc_91_g72.mono : ∀ a0 k,LeO (slices_IndexFunc_91_g72.f k a0) (slices_IndexFunc_91_g72.f (k + 1) a0) := by
 intro a0 k
 have ih0 := slices_IndexFunc_91_g72.mono_l k
 unfold slices_IndexFunc_91_g72.f
 repeat' first
   | (with_reducible exact ih0 _ _ _)
   | (with_reducible exact LeO.refl _)
   | (with_reducible exact LeO.none _)
   | (with_reducible refine LeO.ite ?_ ?_)
   | (with_reducible refine LeO.bind ?_ (fun _ => ?_))
set_option maxHeartbeats 8000000 in
set_option maxRecDepth 100000 in
theorem slices_IndexFunc_91_g72.calls (k : Nat) (A0 : Option Addr) (c0 : Nat) (l0 : List (S97))  (r : Int) (w : World) (hr0 : Kd.C k97 w A0 l0.length l0) (hc0 : l0.length ≤ c0) (h : slices_IndexFunc_91_g72.f k l0 = some r) :
  Calls Tryz.prog 91 #[.slice A0 l0.length c0,(.func (.func 72) #[] #[])] w fun e w' => e = .returned (.int .i64 r) ∧ Below w.heap.size w w' := by
 have hu97 := Tryz.underlying97;have HR0 := aS hr0;have HC0 := aS hc0;clear hr0 hc0;have HB := aS (Below.refl w.heap.size w);have H : (slices_IndexFunc_91_g72.l0 k l0 (l0.length : Int) 0) = some r := h;clear h;have H' := aS H;clear H;go_enter Tryz.func91,Tryz.ntmps91;go_wp2;go_loopg [8] k (fun kq v8 w' => ∃ (x8_1 : Int),v8 = .int .i64 x8_1 ∧ Aside0 (slices_IndexFunc_91_g72.l0 kq l0 (l0.length : Int) x8_1 = some r) ∧ Aside0 (kq ≤ k) ∧ Aside0 (Below w.heap.size w w'))
 case atStart => exact ⟨(0),oE,H',⟨Nat.le_refl _⟩,⟨oL⟩⟩
 case round =>
  clear H';obtain ⟨x8_1,rfl,HA,HK1,HB⟩ := hrel;cases gk with
  | zero => exact absurd HA.out (by simp [slices_IndexFunc_91_g72.l0])
  | succ k1 =>
   have H := HA.out;clear HA;simp only [slices_IndexFunc_91_g72.l0] at H;by_cases c3 : x8_1 < (l0.length : Int)
   ·
    rw [if_pos c3] at H;have c3b0 : decide (x8_1 < (l0.length : Int)) = true := decide_eq_true c3;clear c3;by_cases c4 : 0 ≤ x8_1
    ·
     rw [if_pos c4] at H;have c4b0 : decide (0 ≤ x8_1) = true := decide_eq_true c4;clear c4;by_cases c5 : x8_1 < (l0.length : Int)
     ·
      rw [if_pos c5] at H;have c5b0 : decide (x8_1 < (l0.length : Int)) = true := decide_eq_true c5;clear c5;obtain ⟨t102,A60,H⟩ := bE H;have A6 := aS A60;clear A60;by_cases c7 : t102 = true
      ·
       subst c7;replace H := iT H;obtain rfl := Option.some.inj H;have p101 : 0 ≤ (x8_1 : Int) := of_decide_eq_true (by first | (with_reducible assumption) | assumption);have q101 : x8_1 < (l0.length : Int) := of_decide_eq_true (by first | (with_reducible assumption) | assumption);obtain ⟨ad101,e101,hx101_0,hx101_1,hx101_2,hx101_3,hx101_4⟩ := at_T97 HR0.out x8_1 p101 q101;cases e101
       replace hx101_0 := oJ HB hx101_0;replace hx101_1 := oJ HB hx101_1;replace hx101_2 := oJ HB hx101_2;replace hx101_3 := oJ HB hx101_3;replace hx101_4 := oJ HB hx101_4;replace p101 := eq_true p101;replace q101 := eq_true q101;go_wp2_with (first | (go_at_call 72;(with_reducible refine (impl_GoodBus_2.calls ((rd_T97 l0 x8_1).f0) ((rd_T97 l0 x8_1).f1) ((rd_T97 l0 x8_1).f2) ((rd_T97 l0 x8_1).f3) ((rd_T97 l0 x8_1).f4) true _ A6.out).mono ?_);rintro e w8 ⟨rfl,hb⟩;refine mk1 (below_step oL hb) ?_;clear HB;intro HB));go_ret;exact ⟨oE,oL⟩
      ·
       replace c7 := Bool.eq_false_iff.mpr c7;subst c7;replace H := iF H;have H' := aS H;clear H;have p101 : 0 ≤ (x8_1 : Int) := of_decide_eq_true (by first | (with_reducible assumption) | assumption);have q101 : x8_1 < (l0.length : Int) := of_decide_eq_true (by first | (with_reducible assumption) | assumption);obtain ⟨ad101,e101,hx101_0,hx101_1,hx101_2,hx101_3,hx101_4⟩ := at_T97 HR0.out x8_1 p101 q101;cases e101
       replace hx101_0 := oJ HB hx101_0;replace hx101_1 := oJ HB hx101_1;replace hx101_2 := oJ HB hx101_2;replace hx101_3 := oJ HB hx101_3;replace hx101_4 := oJ HB hx101_4;replace p101 := eq_true p101;replace q101 := eq_true q101;go_wp2_with (first | (go_at_call 72;(with_reducible refine (impl_GoodBus_2.calls ((rd_T97 l0 x8_1).f0) ((rd_T97 l0 x8_1).f1) ((rd_T97 l0 x8_1).f2) ((rd_T97 l0 x8_1).f3) ((rd_T97 l0 x8_1).f4) false _ A6.out).mono ?_);rintro e w9 ⟨rfl,hb⟩;refine mk1 (below_step oL hb) ?_;clear HB;intro HB));go_roundg k1;case measure => have := HK1.out;omega
       case rel => exact ⟨(wrap64 (x8_1 + 1)),oE,H',⟨by have := HK1.out;omega⟩,⟨oL⟩⟩
     · rw [if_neg c5] at H;exact absurd H (by simp)
    · rw [if_neg c4] at H;exact absurd H (by simp)
   · rw [if_neg c3] at H;have c3b0 : decide (x8_1 < (l0.length : Int)) = false := decide_eq_false c3;clear c3;obtain rfl := Option.some.inj H;go_wp2;go_ret;exact ⟨oE,oL⟩

/-! ### slices_ContainsFunc_71_g72: function 71 -/
def slices_ContainsFunc_71_g72.f (k : Nat) (l0 : List (S97))  : Option (Bool) := (slices_IndexFunc_91_g72.f k l0).bind fun t101 => (some (decide (t101 ≥ 0)))
theorem slices_ContainsFunc_71_g72.mono : ∀ a0 k,LeO (slices_ContainsFunc_71_g72.f k a0) (slices_ContainsFunc_71_g72.f (k + 1) a0) := by
 intro a0 k
 unfold slices_ContainsFunc_71_g72.f
 repeat' first
   | (with_reducible exact slices_IndexFunc_91_g72.mono _ _)
   | (with_reducible exact LeO.refl _)
   | (with_reducible exact LeO.none _)
   | (with_reducible refine LeO.ite ?_ ?_)
   | (with_reducible refine LeO.bind ?_ (fun _ => ?_))
set_option maxHeartbeats 8000000 in
set_option maxRecDepth 100000 in
theorem slices_ContainsFunc_71_g72.calls (k : Nat) (A0 : Option Addr) (c0 : Nat) (l0 : List (S97))  (r : Bool) (w : World) (hr0 : Kd.C k97 w A0 l0.length l0) (hc0 : l0.length ≤ c0) (h : slices_ContainsFunc_71_g72.f k l0 = some r) :
  Calls Tryz.prog 71 #[.slice A0 l0.length c0,(.func (.func 72) #[] #[])] w fun e w' => e = .returned (.bool r) ∧ Below w.heap.size w w' := by
 have HR0 := aS hr0;have HC0 := aS hc0;clear hr0 hc0;have HB := aS (Below.refl w.heap.size w);have H : ((slices_IndexFunc_91_g72.f k l0).bind fun t101 => (some (decide (t101 ≥ 0)))) = some r := h;clear h;obtain ⟨t101,A30,H⟩ := bE H;have A3 := aS A30;clear A30;obtain rfl := Option.some.inj H;go_enter Tryz.func71,Tryz.ntmps71;go_wp2_with (first | (go_at_call 91;(with_reducible refine (slices_IndexFunc_91_g72.calls k _ _ l0 t101 _ ?side1 ?side2 A3.out).mono ?_);(case side1 => repeat (first | exact HR0.out | (with_reducible refine Kd.C_alloc ?_ _) | (with_reducible refine Kd.C_drewN ?_ _) | (with_reducible refine Kd.C_drew ?_)));(case side2 => exact HC0.out);rintro e w4 ⟨rfl,hb⟩;refine mk1 (below_step oL hb) ?_;clear HB;intro HB));go_ret;exact ⟨oE,oL⟩

/-! ### impl_GoodBus: function 41 -/
def impl_GoodBus.f (k : Nat) (l0_0 : List Int) (l0_1 : List (S97)) : Option (Bool) := if (l0_0.length : Int) = 512 then (if (l0_1.length : Int) ≤ 400 then ((slices_ContainsFunc_69_g70.f k l0_0).bind fun t102 => (if t102 = true then (some false) else ((slices_ContainsFunc_71_g72.f k l0_1).bind fun t103 => (some (!t103))))) else (some false)) else (some false)
theorem impl_GoodBus.mono : ∀ a0 a1 k,LeO (impl_GoodBus.f k a0 a1) (impl_GoodBus.f (k + 1) a0 a1) := by
 intro a0 a1 k
 unfold impl_GoodBus.f
 repeat' first
   | (with_reducible exact slices_ContainsFunc_69_g70.mono _ _)
   | (with_reducible exact slices_ContainsFunc_71_g72.mono _ _)
   | (with_reducible exact LeO.refl _)
   | (with_reducible exact LeO.none _)
   | (with_reducible refine LeO.ite ?_ ?_)
   | (with_reducible refine LeO.bind ?_ (fun _ => ?_))
set_option maxHeartbeats 8000000 in
set_option maxRecDepth 100000 in
theorem impl_GoodBus.calls (k : Nat) (A0_0 : Option Addr) (c0_0 : Nat) (l0_0 : List Int) (A0_1 : Option Addr) (c0_1 : Nat) (l0_1 : List (S97)) (r : Bool) (w : World) (hr0_0 : Kd.C (Kd.int .i64) w A0_0 l0_0.length l0_0) (hc0_0 : l0_0.length ≤ c0_0) (hr0_1 : Kd.C k97 w A0_1 l0_1.length l0_1) (hc0_1 : l0_1.length ≤ c0_1) (h : impl_GoodBus.f k l0_0 l0_1 = some r) :
  Calls Tryz.prog 41 #[.agg #[.slice A0_0 l0_0.length c0_0,.slice A0_1 l0_1.length c0_1]] w fun e w' => e = .returned (.bool r) ∧ Below w.heap.size w w' := by
 have hu40 := Tryz.underlying40;have HR0_0 := aS hr0_0;have HC0_0 := aS hc0_0;clear hr0_0 hc0_0;have HR0_1 := aS hr0_1;have HC0_1 := aS hc0_1;clear hr0_1 hc0_1;have HB := aS (Below.refl w.heap.size w);have H : (if (l0_0.length : Int) = 512 then (if (l0_1.length : Int) ≤ 400 then ((slices_ContainsFunc_69_g70.f k l0_0).bind fun t102 => (if t102 = true then (some false) else ((slices_ContainsFunc_71_g72.f k l0_1).bind fun t103 => (some (!t103))))) else (some false)) else (some false)) = some r := h;clear h;by_cases c2 : (l0_0.length : Int) = 512
 ·
  rw [if_pos c2] at H;obtain ⟨c2b0,c2b1⟩ := eT c2;clear c2;by_cases c3 : (l0_1.length : Int) ≤ 400
  ·
   rw [if_pos c3] at H;have c3b0 : decide ((l0_1.length : Int) ≤ 400) = true := decide_eq_true c3;have c3b1 : decide (l0_1.length ≤ 400) = true := decide_eq_true (by omega);clear c3;obtain ⟨t102,A40,H⟩ := bE H;have A4 := aS A40;clear A40;by_cases c5 : t102 = true
   ·
    subst c5;replace H := iT H;obtain rfl := Option.some.inj H;go_enter Tryz.func41,Tryz.ntmps41;go_wp2_with (first | ((with_reducible refine gate_dst (N := 1) rfl ?_);(try (refine gate_guard (by rfl) ?_;dsimp only));refine boxE (w := w) oL (cs := #[.slice A0_0 l0_0.length c0_0,.slice A0_1 l0_1.length c0_1]) (t := 40) ?_;clear HB;intro gb101 w6 HB BK101 GW101;have GE101 := GW101;refine zz2 BK101.out ?_;intros) | (go_at_call 69;(with_reducible refine (slices_ContainsFunc_69_g70.calls k _ _ l0_0 true _ ?side1 ?side2 A4.out).mono ?_);(case side1 => exact oC HR0_0.out);(case side2 => exact HC0_0.out);rintro e w' ⟨rfl,⟨nd,rfl⟩⟩));go_ret;exact ⟨oE,oL⟩
   ·
    replace c5 := Bool.eq_false_iff.mpr c5;subst c5;replace H := iF H;obtain ⟨t103,A80,H⟩ := bE H;have A8 := aS A80;clear A80;obtain rfl := Option.some.inj H;go_enter Tryz.func41,Tryz.ntmps41;go_wp2_with (first | ((with_reducible refine gate_dst (N := 1) rfl ?_);(try (refine gate_guard (by rfl) ?_;dsimp only));refine boxE (w := w) oL (cs := #[.slice A0_0 l0_0.length c0_0,.slice A0_1 l0_1.length c0_1]) (t := 40) ?_;clear HB;intro gb101 w9 HB BK101 GW101;have GE101 := GW101;refine zz2 BK101.out ?_;intros) | (go_at_call 69;(with_reducible refine (slices_ContainsFunc_69_g70.calls k _ _ l0_0 false _ ?side1 ?side2 A4.out).mono ?_);(case side1 => exact oC HR0_0.out);(case side2 => exact HC0_0.out);rintro e w' ⟨rfl,⟨nd,rfl⟩⟩) | (go_at_call 71;(with_reducible refine (slices_ContainsFunc_71_g72.calls k _ _ l0_1 t103 _ ?side1 ?side2 A8.out).mono ?_);(case side1 => repeat (first | exact (Kd.C_below HR0_1.out oL) | (with_reducible refine Kd.C_alloc ?_ _) | (with_reducible refine Kd.C_drewN ?_ _) | (with_reducible refine Kd.C_drew ?_)));(case side2 => exact HC0_1.out);rintro e w11 ⟨rfl,hb⟩;refine mk2 (blk_below (oB BK101.out) hb) (below_step oL hb) ?_;clear BK101 HB;intro BK101 HB));go_ret;exact ⟨oE,oL⟩
  ·
   rw [if_neg c3] at H;have c3b0 : decide ((l0_1.length : Int) ≤ 400) = false := decide_eq_false c3;have c3b1 : decide (l0_1.length ≤ 400) = false := decide_eq_false (by omega);clear c3;obtain rfl := Option.some.inj H;go_enter Tryz.func41,Tryz.ntmps41;go_wp2_with (first | ((with_reducible refine gate_dst (N := 1) rfl ?_);(try (refine gate_guard (by rfl) ?_;dsimp only));refine boxE (w := w) oL (cs := #[.slice A0_0 l0_0.length c0_0,.slice A0_1 l0_1.length c0_1]) (t := 40) ?_;clear HB;intro gb101 w12 HB BK101 GW101;have GE101 := GW101;refine zz2 BK101.out ?_;intros));go_ret;exact ⟨oE,oL⟩
 ·
  rw [if_neg c2] at H;obtain ⟨c2b0,c2b1⟩ := eF c2;obtain rfl := Option.some.inj H;go_enter Tryz.func41,Tryz.ntmps41;go_wp2_with (first | ((with_reducible refine gate_dst (N := 1) rfl ?_);(try (refine gate_guard (by rfl) ?_;dsimp only));refine boxE (w := w) oL (cs := #[.slice A0_0 l0_0.length c0_0,.slice A0_1 l0_1.length c0_1]) (t := 40) ?_;clear HB;intro gb101 w14 HB BK101 GW101;have GE101 := GW101;refine zz2 BK101.out ?_;intros));go_ret;exact ⟨oE,oL⟩

/-! ### impl_GoodCpu: function 21 -/
def impl_GoodCpu.f (k : Nat) (l0_0 : List Int) (l0_1 : List Int) (a0_2 : Int) (a0_3 : Int) (a0_4 : Int) (a0_5 : Int) (a0_6 : Bool) (a0_7 : Bool) (l0_8 : List Int) (l0_9 : List (S97)) (a0_10 : Bool) (a0_11 : Bool) : Option (Bool) := (impl_GoodRegs.f k l0_0 l0_1 a0_2 a0_3 a0_4 a0_5 a0_6 a0_7).bind fun t102 => (if t102 = true then ((impl_GoodBus.f k l0_8 l0_9).bind fun t103 => (if t103 = true then (if a0_10 = true then (some (!a0_11)) else (some (!false))) else (some false))) else (some false))
theorem impl_GoodCpu.mono : ∀ a0 a1 a2 a3 a4 a5 a6 a7 a8 a9 a10 a11 k,LeO (impl_GoodCpu.f k a0 a1 a2 a3 a4 a5 a6 a7 a8 a9 a10 a11) (impl_GoodCpu.f (k + 1) a0 a1 a2 a3 a4 a5 a6 a7 a8 a9 a10 a11) := by
 intro a0 a1 a2 a3 a4 a5 a6 a7 a8 a9 a10 a11 k
 unfold impl_GoodCpu.f
 repeat' first
   | (with_reducible exact impl_GoodBus.mono _ _ _)
   | (with_reducible exact impl_GoodRegs.mono _ _ _ _ _ _ _ _ _)
   | (with_reducible exact LeO.refl _)
   | (with_reducible exact LeO.none _)
   | (with_reducible refine LeO.ite ?_ ?_)
   | (with_reducible refine LeO.bind ?_ (fun _ => ?_))
set_option maxHeartbeats 8000000 in
set_option maxRecDepth 100000 in
theorem impl_GoodCpu.calls (k : Nat) (A0_0 : Option Addr) (c0_0 : Nat) (l0_0 : List Int) (A0_1 : Option Addr) (c0_1 : Nat) (l0_1 : List Int) (a0_2 : Int) (a0_3 : Int) (a0_4 : Int) (a0_5 : Int) (a0_6 : Bool) (a0_7 : Bool) (A0_8 : Option Addr) (c0_8 : Nat) (l0_8 : List Int) (A0_9 : Option Addr) (c0_9 : Nat) (l0_9 : List (S97)) (a0_10 : Bool) (a0_11 : Bool) (r : Bool) (w : World) (hr0_0 : Kd.C (Kd.int .i64) w A0_0 l0_0.length l0_0) (hc0_0 : l0_0.length ≤ c0_0) (hr0_1 : Kd.C (Kd.int .i64) w A0_1 l0_1.length l0_1) (hc0_1 : l0_1.length ≤ c0_1) (hr0_8 : Kd.C (Kd.int .i64) w A0_8 l0_8.length l0_8) (hc0_8 : l0_8.length ≤ c0_8) (hr0_9 : Kd.C k97 w A0_9 l0_9.length l0_9) (hc0_9 : l0_9.length ≤ c0_9) (h : impl_GoodCpu.f k l0_0 l0_1 a0_2 a0_3 a0_4 a0_5 a0_6 a0_7 l0_8 l0_9 a0_10 a0_11 = some r) :
  Calls Tryz.prog 21 #[.agg #[.slice A0_0 l0_0.length c0_0,.slice A0_1 l0_1.length c0_1,.int .i64 a0_2,.int .i64 a0_3,.int .i64 a0_4,.int .i64 a0_5,.bool a0_6,.bool a0_7,.slice A0_8 l0_8.length c0_8,.slice A0_9 l0_9.length c0_9,.bool a0_10,.bool a0_11]] w fun e w' => e = .returned (.bool r) ∧ Below w.heap.size w w' := by
 have hu42 := Tryz.underlying42;have hu37 := Tryz.underlying37;have hu40 := Tryz.underlying40;have HR0_0 := aS hr0_0;have HC0_0 := aS hc0_0;clear hr0_0 hc0_0;have HR0_1 := aS hr0_1;have HC0_1 := aS hc0_1;clear hr0_1 hc0_1;have HR0_8 := aS hr0_8;have HC0_8 := aS hc0_8;clear hr0_8 hc0_8;have HR0_9 := aS hr0_9;have HC0_9 := aS hc0_9;clear hr0_9 hc0_9;have HB := aS (Below.refl w.heap.size w);have H : ((impl_GoodRegs.f k l0_0 l0_1 a0_2 a0_3 a0_4 a0_5 a0_6 a0_7).bind fun t102 => (if t102 = true then ((impl_GoodBus.f k l0_8 l0_9).bind fun t103 => (if t103 = true then (if a0_10 = true then (some (!a0_11)) else (some (!false))) else (some false))) else (some false))) = some r := h;clear h;obtain ⟨t102,A20,H⟩ := bE H;have A2 := aS A20;clear A20;by_cases c3 : t102 = true
 ·
  subst c3;replace H := iT H;obtain ⟨t103,A40,H⟩ := bE H;have A4 := aS A40;clear A40;by_cases c5 : t103 = true
  ·
   subst c5;replace H := iT H;by_cases c6 : a0_10 = true
   ·
    subst c6;replace H := iT H;obtain rfl := Option.some.inj H;go_enter Tryz.func21,Tryz.ntmps21;go_wp2_with (first | ((with_reducible refine gate_dst (N := 1) rfl ?_);refine boxE (w := w) oL (cs := #[.slice A0_0 l0_0.length c0_0,.slice A0_1 l0_1.length c0_1,.int .i64 a0_2,.int .i64 a0_3,.int .i64 a0_4,.int .i64 a0_5,.bool a0_6,.bool a0_7,.slice A0_8 l0_8.length c0_8,.slice A0_9 l0_9.length c0_9,.bool true,.bool a0_11]) (t := 42) ?_;clear HB;intro gb101 w7 HB BK101 GW101;have GE101 := GW101;refine zz12 BK101.out ?_;intros) | ((with_reducible refine gate_callee (f := 40) rfl ?_);refine goesL_ (some 5) rfl rfl Tryz.func40 (by kernel_rfl) rfl #[.agg #[.slice A0_0 l0_0.length c0_0,.slice A0_1 l0_1.length c0_1,.int .i64 a0_2,.int .i64 a0_3,.int .i64 a0_4,.int .i64 a0_5,.bool a0_6,.bool a0_7]] rfl oA ?_;(with_reducible refine (impl_GoodRegs.calls k _ _ l0_0 _ _ l0_1 a0_2 a0_3 a0_4 a0_5 a0_6 a0_7 true _ ?side1 ?side2 ?side3 ?side4 A2.out).mono ?_);(case side1 => exact oC HR0_0.out);(case side2 => exact HC0_0.out);(case side3 => exact oC HR0_1.out);(case side4 => exact HC0_1.out);rintro e w9 ⟨rfl,hb⟩;refine ⟨_,rfl,?_⟩;refine mk2 (blk_below (oB BK101.out) hb) (below_step oL hb) ?_;clear BK101 HB;intro BK101 HB;refine zz12 BK101.out ?_;intros) | (go_at_call 41;(with_reducible refine (impl_GoodBus.calls k _ _ l0_8 _ _ l0_9 true _ ?side1 ?side2 ?side3 ?side4 A4.out).mono ?_);(case side1 => exact oC HR0_8.out);(case side2 => exact HC0_8.out);(case side3 => exact oC HR0_9.out);(case side4 => exact HC0_9.out);rintro e w11 ⟨rfl,hb⟩;refine mk2 (blk_below (oB BK101.out) hb) (below_step oL hb) ?_;clear BK101 HB;intro BK101 HB;refine zz12 BK101.out ?_;intros));go_ret;exact ⟨oE,oL⟩
   ·
    replace c6 := Bool.eq_false_iff.mpr c6;subst c6;replace H := iF H;obtain rfl := Option.some.inj H;go_enter Tryz.func21,Tryz.ntmps21;go_wp2_with (first | ((with_reducible refine gate_dst (N := 1) rfl ?_);refine boxE (w := w) oL (cs := #[.slice A0_0 l0_0.length c0_0,.slice A0_1 l0_1.length c0_1,.int .i64 a0_2,.int .i64 a0_3,.int .i64 a0_4,.int .i64 a0_5,.bool a0_6,.bool a0_7,.slice A0_8 l0_8.length c0_8,.slice A0_9 l0_9.length c0_9,.bool false,.bool a0_11]) (t := 42) ?_;clear HB;intro gb101 w13 HB BK101 GW101;have GE101 := GW101;refine zz12 BK101.out ?_;intros) | ((with_reducible refine gate_callee (f := 40) rfl ?_);refine goesL_ (some 5) rfl rfl Tryz.func40 (by kernel_rfl) rfl #[.agg #[.slice A0_0 l0_0.length c0_0,.slice A0_1 l0_1.length c0_1,.int .i64 a0_2,.int .i64 a0_3,.int .i64 a0_4,.int .i64 a0_5,.bool a0_6,.bool a0_7]] rfl oA ?_;(with_reducible refine (impl_GoodRegs.calls k _ _ l0_0 _ _ l0_1 a0_2 a0_3 a0_4 a0_5 a0_6 a0_7 true _ ?side1 ?side2 ?side3 ?side4 A2.out).mono ?_);(case side1 => exact oC HR0_0.out);(case side2 => exact HC0_0.out);(case side3 => exact oC HR0_1.out);(case side4 => exact HC0_1.out);rintro e w15 ⟨rfl,hb⟩;refine ⟨_,rfl,?_⟩;refine mk2 (blk_below (oB BK101.out) hb) (below_step oL hb) ?_;clear BK101 HB;intro BK101 HB;refine zz12 BK101.out ?_;intros) | (go_at_call 41;(with_reducible refine (impl_GoodBus.calls k _ _ l0_8 _ _ l0_9 true _ ?side1 ?side2 ?side3 ?side4 A4.out).mono ?_);(case side1 => exact oC HR0_8.out);(case side2 => exact HC0_8.out);(case side3 => exact oC HR0_9.out);(case side4 => exact HC0_9.out);rintro e w17 ⟨rfl,hb⟩;refine mk2 (blk_below (oB BK101.out) hb) (below_step oL hb) ?_;clear BK101 HB;intro BK101 HB;refine zz12 BK101.out ?_;intros));go_ret;exact ⟨oE,oL⟩
  ·
   replace c5 := Bool.eq_false_iff.mpr c5;subst c5;replace H := iF H;obtain rfl := Option.some.inj H;go_enter Tryz.func21,Tryz.ntmps21;go_wp2_with (first | ((with_reducible refine gate_dst (N := 1) rfl ?_);refine boxE (w := w) oL (cs := #[.slice A0_0 l0_0.length c0_0,.slice A0_1 l0_1.length c0_1,.int .i64 a0_2,.int .i64 a0_3,.int .i64 a0_4,.int .i64 a0_5,.bool a0_6,.bool a0_7,.slice A0_8 l0_8.length c0_8,.slice A0_9 l0_9.length c0_9,.bool a0_10,.bool a0_11]) (t := 42) ?_;clear HB;intro gb101 w19 HB BK101 GW101;have GE101 := GW101;refine zz12 BK101.out ?_;intros) | ((with_reducible refine gate_callee (f := 40) rfl ?_);refine goesL_ (some 5) rfl rfl Tryz.func40 (by kernel_rfl) rfl #[.agg #[.slice A0_0 l0_0.length c0_0,.slice A0_1 l0_1.length c0_1,.int .i64 a0_2,.int .i64 a0_3,.int .i64 a0_4,.int .i64 a0_5,.bool a0_6,.bool a0_7]] rfl oA ?_;(with_reducible refine (impl_GoodRegs.calls k _ _ l0_0 _ _ l0_1 a0_2 a0_3 a0_4 a0_5 a0_6 a0_7 true _ ?side1 ?side2 ?side3 ?side4 A2.out).mono ?_);(case side1 => exact oC HR0_0.out);(case side2 => exact HC0_0.out);(case side3 => exact oC HR0_1.out);(case side4 => exact HC0_1.out);rintro e w21 ⟨rfl,hb⟩;refine ⟨_,rfl,?_⟩;refine mk2 (blk_below (oB BK101.out) hb) (below_step oL hb) ?_;clear BK101 HB;intro BK101 HB;refine zz12 BK101.out ?_;intros) | (go_at_call 41;(with_reducible refine (impl_GoodBus.calls k _ _ l0_8 _ _ l0_9 false _ ?side1 ?side2 ?side3 ?side4 A4.out).mono ?_);(case side1 => exact oC HR0_8.out);(case side2 => exact HC0_8.out);(case side3 => exact oC HR0_9.out);(case side4 => exact HC0_9.out);rintro e w23 ⟨rfl,hb⟩;refine mk2 (blk_below (oB BK101.out) hb) (below_step oL hb) ?_;clear BK101 HB;intro BK101 HB));go_ret;exact ⟨oE,oL⟩
 ·
  replace c3 := Bool.eq_false_iff.mpr c3;subst c3;replace H := iF H;obtain rfl := Option.some.inj H;go_enter Tryz.func21,Tryz.ntmps21;go_wp2_with (first | ((with_reducible refine gate_dst (N := 1) rfl ?_);refine boxE (w := w) oL (cs := #[.slice A0_0 l0_0.length c0_0,.slice A0_1 l0_1.length c0_1,.int .i64 a0_2,.int .i64 a0_3,.int .i64 a0_4,.int .i64 a0_5,.bool a0_6,.bool a0_7,.slice A0_8 l0_8.length c0_8,.slice A0_9 l0_9.length c0_9,.bool a0_10,.bool a0_11]) (t := 42) ?_;clear HB;intro gb101 w24 HB BK101 GW101;have GE101 := GW101;refine zz12 BK101.out ?_;intros) | ((with_reducible refine gate_callee (f := 40) rfl ?_);refine goesL_ (some 5) rfl rfl Tryz.func40 (by kernel_rfl) rfl #[.agg #[.slice A0_0 l0_0.length c0_0,.slice A0_1 l0_1.length c0_1,.int .i64 a0_2,.int .i64 a0_3,.int .i64 a0_4,.int .i64 a0_5,.bool a0_6,.bool a0_7]] rfl oA ?_;(with_reducible refine (impl_GoodRegs.calls k _ _ l0_0 _ _ l0_1 a0_2 a0_3 a0_4 a0_5 a0_6 a0_7 false _ ?side1 ?side2 ?side3 ?side4 A2.out).mono ?_);(case side1 => exact oC HR0_0.out);(case side2 => exact HC0_0.out);(case side3 => exact oC HR0_1.out);(case side4 => exact HC0_1.out);rintro e w26 ⟨rfl,hb⟩;refine ⟨_,rfl,?_⟩;refine mk2 (blk_below (oB BK101.out) hb) (below_step oL hb) ?_;clear BK101 HB;intro BK101 HB));go_ret;exact ⟨oE,oL⟩

/-! ### impl_needsExt: function 93 -/
def impl_needsExt.f (a0 : Int) : Option (Bool) := if a0 = 5 then (some true) else (if a0 = 6 then (some true) else (some (a0 == 7)))
set_option maxHeartbeats 8000000 in
set_option maxRecDepth 100000 in
theorem impl_needsExt.calls (a0 : Int) (r : Bool) (w : World) (h : impl_needsExt.f a0 = some r) :
  Calls Tryz.prog 93 #[.int .i64 a0] w fun e w' => e = .returned (.bool r) ∧ Drawn0 w w' := by
 have H : (if a0 = 5 then (some true) else (if a0 = 6 then (some true) else (some (a0 == 7)))) = some r := h;clear h;by_cases c2 : a0 = 5;{rw [if_pos c2] at H;obtain ⟨c2b0,c2b1⟩ := eT c2;clear c2;obtain rfl := Option.some.inj H;go_enter Tryz.func93,Tryz.ntmps93;go_wp2;go_ret;exact ⟨by first | rfl | (simp;done) | (simp [*];done),by repeat (first | exact Drawn0.refl _ | apply Drawn0.step)⟩}
 ·
  rw [if_neg c2] at H;obtain ⟨c2b0,c2b1⟩ := eF c2;by_cases c3 : a0 = 6;{rw [if_pos c3] at H;obtain ⟨c3b0,c3b1⟩ := eT c3;clear c3;obtain rfl := Option.some.inj H;go_enter Tryz.func93,Tryz.ntmps93;go_wp2;go_ret;exact ⟨by first | rfl | (simp;done) | (simp [*];done),by repeat (first | exact Drawn0.refl _ | apply Drawn0.step)⟩};{rw [if_neg c3] at H;obtain ⟨c3b0,c3b1⟩ := eF c3;obtain rfl := Option.some.inj H;go_enter Tryz.func93,Tryz.ntmps93;go_wp2;go_ret;exact ⟨by first | rfl | (simp;done) | (simp [*];done),by repeat (first | exact Drawn0.refl _ | apply Drawn0.step)⟩}

end Go.Proofs.YtapfngfaiojmhaaGreat.R
