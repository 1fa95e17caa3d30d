-- Made by this session's program gprint.py out of the translation. Not trusted: Lean checks it.
import Derived.Test.YtjnifnhpnccpcaaHx0
import Derived.Test.YtjnifnhpnccpcaaHx1
namespace Go.Proofs.Ytjnifnhpnccpcaa.H
open Go.RowKit Go.Proofs.YtjnifnhpnccpcaaW.PrintWords Go.Proofs.YtjnifnhpnccpcaaW.PrintLast Go.Proofs.YtjnifnhpnccpcaaW.PrintMore
attribute [local go_sem] max2_int min2_int max_two min_two max_three min_three max_four min_four   -- for this text's walks alone
set_option linter.unusedVariables false
set_option linter.unusedSimpArgs false

attribute [local go_sem high] eqA75
/-! ### impl_within: function 58 -/
def impl_within.f (a0 : Int) (a1 : Int) (a2 : Int) : Option (Bool) := if a0 ≥ a1 then (some (decide (a0 ≤ a2))) else (some false)
set_option maxHeartbeats 8000000 in
set_option maxRecDepth 100000 in
theorem impl_within.calls (a0 : Int) (a1 : Int) (a2 : Int) (r : Bool) (w : World) (h : impl_within.f a0 a1 a2 = some r) :
  Calls Try.prog 58 #[.int .i64 a0,.int .i64 a1,.int .i64 a2] w fun e w' => e = .returned (.bool r) ∧ Drawn0 w w' := by
 unfold impl_within.f at h;have H := h;clear h;by_cases c4 : a0 ≥ a1;{rw [if_pos c4] at H;have c4b0 := decide_eq_true c4;clear c4;obtain rfl := Option.some.inj H;go_enter Try.func58,Try.ntmps58;go_wp2;go_ret;exact ⟨by first | rfl | (simp;done) | (simp [*];done),by repeat (first | exact Drawn0.refl _ | apply Drawn0.step)⟩};{rw [if_neg c4] at H;have c4b0 := decide_eq_false c4;clear c4;obtain rfl := Option.some.inj H;go_enter Try.func58,Try.ntmps58;go_wp2;go_ret;exact ⟨by first | rfl | (simp;done) | (simp [*];done),by repeat (first | exact Drawn0.refl _ | apply Drawn0.step)⟩}

/-! ### impl_isSize: function 69 -/
def impl_isSize.f (a0 : Int) : Option (Bool) := if a0 = 1 then (some true) else (some (a0 == 2))
set_option maxHeartbeats 8000000 in
set_option maxRecDepth 100000 in
theorem impl_isSize.calls (a0 : Int) (r : Bool) (w : World) (h : impl_isSize.f a0 = some r) :
  Calls Try.prog 69 #[.int .i64 a0] w fun e w' => e = .returned (.bool r) ∧ Drawn0 w w' := by
 unfold impl_isSize.f at h;have H := h;clear h;by_cases c2 : a0 = 1;{rw [if_pos c2] at H;obtain ⟨c2b0,c2b1⟩ := eT c2;clear c2;obtain rfl := Option.some.inj H;go_enter Try.func69,Try.ntmps69;go_wp2;go_ret;exact ⟨by first | rfl | (simp;done) | (simp [*];done),by repeat (first | exact Drawn0.refl _ | apply Drawn0.step)⟩};{rw [if_neg c2] at H;obtain ⟨c2b0,c2b1⟩ := eF c2;obtain rfl := Option.some.inj H;go_enter Try.func69,Try.ntmps69;go_wp2;go_ret;exact ⟨by first | rfl | (simp;done) | (simp [*];done),by repeat (first | exact Drawn0.refl _ | apply Drawn0.step)⟩}

/-! ### impl_isWord: function 68 -/
def impl_isWord.f (a0 : Int) : Option (Bool) := (impl_within.f a0 0 65535).bind fun t101 => (some t101)
set_option maxHeartbeats 8000000 in
set_option maxRecDepth 100000 in
theorem impl_isWord.calls (a0 : Int) (r : Bool) (w : World) (h : impl_isWord.f a0 = some r) :
  Calls Try.prog 68 #[.int .i64 a0] w fun e w' => e = .returned (.bool r) ∧ Drawn0 w w' := by
 unfold impl_isWord.f at h;have H := h;clear h;obtain ⟨t101,A2,H⟩ := bA_ H;obtain rfl := Option.some.inj H;go_enter Try.func68,Try.ntmps68;go_wp2_with (first | ((with_reducible refine gate_callee (f := 58) rfl ?_);refine goesQ (some 4) Try.func58 #[.int .i64 a0,.int .i64 0,.int .i64 65535] (impl_within.calls a0 0 65535 t101 _ A2.out) fun nd => ?_));go_ret;exact ⟨by first | rfl | (simp;done) | (simp [*];done),by repeat (first | exact Drawn0.refl _ | apply Drawn0.step)⟩

/-! ### impl_needsExt: function 127 -/
def impl_needsExt.f (a0 : Int) : Option (Bool) := if a0 = 5 then (some true) else (if a0 = 6 then (some true) else (some (a0 == 7)))
set_option maxHeartbeats 8000000 in
set_option maxRecDepth 100000 in
theorem impl_needsExt.calls (a0 : Int) (r : Bool) (w : World) (h : impl_needsExt.f a0 = some r) :
  Calls Try.prog 127 #[.int .i64 a0] w fun e w' => e = .returned (.bool r) ∧ Drawn0 w w' := by
 unfold impl_needsExt.f at h;have H := h;clear h;by_cases c2 : a0 = 5;{rw [if_pos c2] at H;obtain ⟨c2b0,c2b1⟩ := eT c2;clear c2;obtain rfl := Option.some.inj H;go_enter Try.func127,Try.ntmps127;go_wp2;go_ret;exact ⟨by first | rfl | (simp;done) | (simp [*];done),by repeat (first | exact Drawn0.refl _ | apply Drawn0.step)⟩}
 ·
  rw [if_neg c2] at H;obtain ⟨c2b0,c2b1⟩ := eF c2;by_cases c3 : a0 = 6;{rw [if_pos c3] at H;obtain ⟨c3b0,c3b1⟩ := eT c3;clear c3;obtain rfl := Option.some.inj H;go_enter Try.func127,Try.ntmps127;go_wp2;go_ret;exact ⟨by first | rfl | (simp;done) | (simp [*];done),by repeat (first | exact Drawn0.refl _ | apply Drawn0.step)⟩};{rw [if_neg c3] at H;obtain ⟨c3b0,c3b1⟩ := eF c3;obtain rfl := Option.some.inj H;go_enter Try.func127,Try.ntmps127;go_wp2;go_ret;exact ⟨by first | rfl | (simp;done) | (simp [*];done),by repeat (first | exact Drawn0.refl _ | apply Drawn0.step)⟩}

/-! ### impl_GoodOperand: function 108 -/
def impl_GoodOperand.f (a0_0 : Int) (a0_1 : Int) (a0_2 : Int) : Option (Bool) := (impl_within.f a0_0 0 7).bind fun t102 => (if t102 = true then ((impl_isWord.f a0_2).bind fun t103 => (if t103 = true then ((impl_needsExt.f a0_0).bind fun t104 => (if t104 = true then ((impl_within.f a0_1 0 3).bind fun t105 => (if t105 = true then (if a0_1 = 0 then (some true) else (some (decide (a0_0 < 6)))) else (some false))) else (if a0_2 = 0 then ((impl_within.f a0_1 0 3).bind fun t106 => (if t106 = true then (if a0_1 = 0 then (some true) else (some (decide (a0_0 < 6)))) else (some false))) else (some false)))) else (some false))) else (some false))
set_option maxHeartbeats 8000000 in
set_option maxRecDepth 100000 in
theorem impl_GoodOperand.calls (a0_0 : Int) (a0_1 : Int) (a0_2 : Int) (r : Bool) (w : World) (h : impl_GoodOperand.f a0_0 a0_1 a0_2 = some r) :
  Calls Try.prog 108 #[.agg #[.int .i64 a0_0,.int .i64 a0_1,.int .i64 a0_2]] w fun e w' => e = .returned (.bool r) ∧ Below w.heap.size w w' := by
 have hu75 := Try.underlying75;have HB := aS (Below.refl w.heap.size w);unfold impl_GoodOperand.f at h;have H := h;clear h;obtain ⟨t102,A2,H⟩ := bA_ H;by_cases c3 : t102 = true
 ·
  subst c3;replace H := iT H;obtain ⟨t103,A4,H⟩ := bA_ H;by_cases c5 : t103 = true
  ·
   subst c5;replace H := iT H;obtain ⟨t104,A6,H⟩ := bA_ H;by_cases c7 : t104 = true
   ·
    subst c7;replace H := iT H;obtain ⟨t105,A8,H⟩ := bA_ H;by_cases c9 : t105 = true
    ·
     subst c9;replace H := iT H;by_cases c10 : a0_1 = 0
     ·
      rw [if_pos c10] at H;obtain ⟨c10b0,c10b1⟩ := eT c10;clear c10;obtain rfl := Option.some.inj H;go_enter Try.func108,Try.ntmps108;go_wp2_with (first | ((with_reducible refine gD 1 rfl ?_);refine bX (w:=w) #[.int .i64 a0_0,.int .i64 a0_1,.int .i64 a0_2] 75 ?_;clear HB;intro gb101 w11 HB BK101 GW101;refine zz3 BK101.out ?_;intros) | ((with_reducible refine gate_callee (f := 58) rfl ?_);refine goesQ (some 5) Try.func58 #[.int .i64 a0_0,.int .i64 0,.int .i64 7] (impl_within.calls a0_0 0 7 true _ A2.out) fun nd => ?_) | (go_at_call 68;(with_reducible refine (impl_isWord.calls a0_2 true _ A4.out).mono ?_);rintro e w' ⟨rfl,⟨nd,rfl⟩⟩) | (go_at_call 127;(with_reducible refine (impl_needsExt.calls a0_0 true _ A6.out).mono ?_);rintro e w' ⟨rfl,⟨nd,rfl⟩⟩) | ((with_reducible refine gate_callee (f := 58) rfl ?_);refine goesQ (some 26) Try.func58 #[.int .i64 a0_1,.int .i64 0,.int .i64 3] (impl_within.calls a0_1 0 3 true _ A8.out) fun nd => ?_));go_ret;exact ⟨oE,oL⟩
     ·
      rw [if_neg c10] at H;obtain ⟨c10b0,c10b1⟩ := eF c10;obtain rfl := Option.some.inj H;go_enter Try.func108,Try.ntmps108;go_wp2_with (first | ((with_reducible refine gD 1 rfl ?_);refine bX (w:=w) #[.int .i64 a0_0,.int .i64 a0_1,.int .i64 a0_2] 75 ?_;clear HB;intro gb101 w13 HB BK101 GW101;refine zz3 BK101.out ?_;intros) | ((with_reducible refine gate_callee (f := 58) rfl ?_);refine goesQ (some 5) Try.func58 #[.int .i64 a0_0,.int .i64 0,.int .i64 7] (impl_within.calls a0_0 0 7 true _ A2.out) fun nd => ?_) | (go_at_call 68;(with_reducible refine (impl_isWord.calls a0_2 true _ A4.out).mono ?_);rintro e w' ⟨rfl,⟨nd,rfl⟩⟩) | (go_at_call 127;(with_reducible refine (impl_needsExt.calls a0_0 true _ A6.out).mono ?_);rintro e w' ⟨rfl,⟨nd,rfl⟩⟩) | ((with_reducible refine gate_callee (f := 58) rfl ?_);refine goesQ (some 26) Try.func58 #[.int .i64 a0_1,.int .i64 0,.int .i64 3] (impl_within.calls a0_1 0 3 true _ A8.out) fun nd => ?_));go_ret;exact ⟨oE,oL⟩
    ·
     replace c9 := Bool.eq_false_iff.mpr c9;subst c9;replace H := iF H;obtain rfl := Option.some.inj H;go_enter Try.func108,Try.ntmps108;go_wp2_with (first | ((with_reducible refine gD 1 rfl ?_);refine bX (w:=w) #[.int .i64 a0_0,.int .i64 a0_1,.int .i64 a0_2] 75 ?_;clear HB;intro gb101 w15 HB BK101 GW101;refine zz3 BK101.out ?_;intros) | ((with_reducible refine gate_callee (f := 58) rfl ?_);refine goesQ (some 5) Try.func58 #[.int .i64 a0_0,.int .i64 0,.int .i64 7] (impl_within.calls a0_0 0 7 true _ A2.out) fun nd => ?_) | (go_at_call 68;(with_reducible refine (impl_isWord.calls a0_2 true _ A4.out).mono ?_);rintro e w' ⟨rfl,⟨nd,rfl⟩⟩) | (go_at_call 127;(with_reducible refine (impl_needsExt.calls a0_0 true _ A6.out).mono ?_);rintro e w' ⟨rfl,⟨nd,rfl⟩⟩) | ((with_reducible refine gate_callee (f := 58) rfl ?_);refine goesQ (some 26) Try.func58 #[.int .i64 a0_1,.int .i64 0,.int .i64 3] (impl_within.calls a0_1 0 3 false _ A8.out) fun nd => ?_));go_ret;exact ⟨oE,oL⟩
   ·
    replace c7 := Bool.eq_false_iff.mpr c7;subst c7;replace H := iF H;by_cases c17 : a0_2 = 0
    ·
     rw [if_pos c17] at H;obtain ⟨c17b0,c17b1⟩ := eT c17;clear c17;obtain ⟨t106,A18,H⟩ := bA_ H;by_cases c19 : t106 = true
     ·
      subst c19;replace H := iT H;by_cases c20 : a0_1 = 0
      ·
       rw [if_pos c20] at H;obtain ⟨c20b0,c20b1⟩ := eT c20;clear c20;obtain rfl := Option.some.inj H;go_enter Try.func108,Try.ntmps108;go_wp2_with (first | ((with_reducible refine gD 1 rfl ?_);refine bX (w:=w) #[.int .i64 a0_0,.int .i64 a0_1,.int .i64 a0_2] 75 ?_;clear HB;intro gb101 w21 HB BK101 GW101;refine zz3 BK101.out ?_;intros) | ((with_reducible refine gate_callee (f := 58) rfl ?_);refine goesQ (some 5) Try.func58 #[.int .i64 a0_0,.int .i64 0,.int .i64 7] (impl_within.calls a0_0 0 7 true _ A2.out) fun nd => ?_) | (go_at_call 68;(with_reducible refine (impl_isWord.calls a0_2 true _ A4.out).mono ?_);rintro e w' ⟨rfl,⟨nd,rfl⟩⟩) | (go_at_call 127;(with_reducible refine (impl_needsExt.calls a0_0 false _ A6.out).mono ?_);rintro e w' ⟨rfl,⟨nd,rfl⟩⟩) | ((with_reducible refine gate_callee (f := 58) rfl ?_);refine goesQ (some 26) Try.func58 #[.int .i64 a0_1,.int .i64 0,.int .i64 3] (impl_within.calls a0_1 0 3 true _ A18.out) fun nd => ?_));go_ret;exact ⟨oE,oL⟩
      ·
       rw [if_neg c20] at H;obtain ⟨c20b0,c20b1⟩ := eF c20;obtain rfl := Option.some.inj H;go_enter Try.func108,Try.ntmps108;go_wp2_with (first | ((with_reducible refine gD 1 rfl ?_);refine bX (w:=w) #[.int .i64 a0_0,.int .i64 a0_1,.int .i64 a0_2] 75 ?_;clear HB;intro gb101 w23 HB BK101 GW101;refine zz3 BK101.out ?_;intros) | ((with_reducible refine gate_callee (f := 58) rfl ?_);refine goesQ (some 5) Try.func58 #[.int .i64 a0_0,.int .i64 0,.int .i64 7] (impl_within.calls a0_0 0 7 true _ A2.out) fun nd => ?_) | (go_at_call 68;(with_reducible refine (impl_isWord.calls a0_2 true _ A4.out).mono ?_);rintro e w' ⟨rfl,⟨nd,rfl⟩⟩) | (go_at_call 127;(with_reducible refine (impl_needsExt.calls a0_0 false _ A6.out).mono ?_);rintro e w' ⟨rfl,⟨nd,rfl⟩⟩) | ((with_reducible refine gate_callee (f := 58) rfl ?_);refine goesQ (some 26) Try.func58 #[.int .i64 a0_1,.int .i64 0,.int .i64 3] (impl_within.calls a0_1 0 3 true _ A18.out) fun nd => ?_));go_ret;exact ⟨oE,oL⟩
     ·
      replace c19 := Bool.eq_false_iff.mpr c19;subst c19;replace H := iF H;obtain rfl := Option.some.inj H;go_enter Try.func108,Try.ntmps108;go_wp2_with (first | ((with_reducible refine gD 1 rfl ?_);refine bX (w:=w) #[.int .i64 a0_0,.int .i64 a0_1,.int .i64 a0_2] 75 ?_;clear HB;intro gb101 w25 HB BK101 GW101;refine zz3 BK101.out ?_;intros) | ((with_reducible refine gate_callee (f := 58) rfl ?_);refine goesQ (some 5) Try.func58 #[.int .i64 a0_0,.int .i64 0,.int .i64 7] (impl_within.calls a0_0 0 7 true _ A2.out) fun nd => ?_) | (go_at_call 68;(with_reducible refine (impl_isWord.calls a0_2 true _ A4.out).mono ?_);rintro e w' ⟨rfl,⟨nd,rfl⟩⟩) | (go_at_call 127;(with_reducible refine (impl_needsExt.calls a0_0 false _ A6.out).mono ?_);rintro e w' ⟨rfl,⟨nd,rfl⟩⟩) | ((with_reducible refine gate_callee (f := 58) rfl ?_);refine goesQ (some 26) Try.func58 #[.int .i64 a0_1,.int .i64 0,.int .i64 3] (impl_within.calls a0_1 0 3 false _ A18.out) fun nd => ?_));go_ret;exact ⟨oE,oL⟩
    ·
     rw [if_neg c17] at H;obtain ⟨c17b0,c17b1⟩ := eF c17;obtain rfl := Option.some.inj H;go_enter Try.func108,Try.ntmps108;go_wp2_with (first | ((with_reducible refine gD 1 rfl ?_);refine bX (w:=w) #[.int .i64 a0_0,.int .i64 a0_1,.int .i64 a0_2] 75 ?_;clear HB;intro gb101 w27 HB BK101 GW101;refine zz3 BK101.out ?_;intros) | ((with_reducible refine gate_callee (f := 58) rfl ?_);refine goesQ (some 5) Try.func58 #[.int .i64 a0_0,.int .i64 0,.int .i64 7] (impl_within.calls a0_0 0 7 true _ A2.out) fun nd => ?_) | (go_at_call 68;(with_reducible refine (impl_isWord.calls a0_2 true _ A4.out).mono ?_);rintro e w' ⟨rfl,⟨nd,rfl⟩⟩) | (go_at_call 127;(with_reducible refine (impl_needsExt.calls a0_0 false _ A6.out).mono ?_);rintro e w' ⟨rfl,⟨nd,rfl⟩⟩));go_ret;exact ⟨oE,oL⟩
  ·
   replace c5 := Bool.eq_false_iff.mpr c5;subst c5;replace H := iF H;obtain rfl := Option.some.inj H;go_enter Try.func108,Try.ntmps108;go_wp2_with (first | ((with_reducible refine gD 1 rfl ?_);refine bX (w:=w) #[.int .i64 a0_0,.int .i64 a0_1,.int .i64 a0_2] 75 ?_;clear HB;intro gb101 w29 HB BK101 GW101;refine zz3 BK101.out ?_;intros) | ((with_reducible refine gate_callee (f := 58) rfl ?_);refine goesQ (some 5) Try.func58 #[.int .i64 a0_0,.int .i64 0,.int .i64 7] (impl_within.calls a0_0 0 7 true _ A2.out) fun nd => ?_) | (go_at_call 68;(with_reducible refine (impl_isWord.calls a0_2 false _ A4.out).mono ?_);rintro e w' ⟨rfl,⟨nd,rfl⟩⟩));go_ret;exact ⟨oE,oL⟩
 ·
  replace c3 := Bool.eq_false_iff.mpr c3;subst c3;replace H := iF H;obtain rfl := Option.some.inj H;go_enter Try.func108,Try.ntmps108;go_wp2_with (first | ((with_reducible refine gD 1 rfl ?_);refine bX (w:=w) #[.int .i64 a0_0,.int .i64 a0_1,.int .i64 a0_2] 75 ?_;clear HB;intro gb101 w31 HB BK101 GW101;refine zz3 BK101.out ?_;intros) | ((with_reducible refine gate_callee (f := 58) rfl ?_);refine goesQ (some 5) Try.func58 #[.int .i64 a0_0,.int .i64 0,.int .i64 7] (impl_within.calls a0_0 0 7 false _ A2.out) fun nd => ?_));go_ret;exact ⟨oE,oL⟩

/-! ### impl_isMemory: function 124 -/
def impl_isMemory.f (a0 : Int) : Option (Bool) := (impl_within.f a0 2 6).bind fun t101 => (some t101)
set_option maxHeartbeats 8000000 in
set_option maxRecDepth 100000 in
theorem impl_isMemory.calls (a0 : Int) (r : Bool) (w : World) (h : impl_isMemory.f a0 = some r) :
  Calls Try.prog 124 #[.int .i64 a0] w fun e w' => e = .returned (.bool r) ∧ Drawn0 w w' := by
 unfold impl_isMemory.f at h;have H := h;clear h;obtain ⟨t101,A2,H⟩ := bA_ H;obtain rfl := Option.some.inj H;go_enter Try.func124,Try.ntmps124;go_wp2_with (first | ((with_reducible refine gate_callee (f := 58) rfl ?_);refine goesQ (some 4) Try.func58 #[.int .i64 a0,.int .i64 2,.int .i64 6] (impl_within.calls a0 2 6 t101 _ A2.out) fun nd => ?_));go_ret;exact ⟨by first | rfl | (simp;done) | (simp [*];done),by repeat (first | exact Drawn0.refl _ | apply Drawn0.step)⟩

/-! ### impl_isSettable: function 128 -/
def impl_isSettable.f (a0 : Int) : Option (Bool) := if a0 = 0 then (some true) else ((impl_isMemory.f a0).bind fun t101 => (some t101))
set_option maxHeartbeats 8000000 in
set_option maxRecDepth 100000 in
theorem impl_isSettable.calls (a0 : Int) (r : Bool) (w : World) (h : impl_isSettable.f a0 = some r) :
  Calls Try.prog 128 #[.int .i64 a0] w fun e w' => e = .returned (.bool r) ∧ Drawn0 w w' := by
 unfold impl_isSettable.f at h;have H := h;clear h;by_cases c2 : a0 = 0;{rw [if_pos c2] at H;obtain ⟨c2b0,c2b1⟩ := eT c2;clear c2;obtain rfl := Option.some.inj H;go_enter Try.func128,Try.ntmps128;go_wp2;go_ret;exact ⟨by first | rfl | (simp;done) | (simp [*];done),by repeat (first | exact Drawn0.refl _ | apply Drawn0.step)⟩}
 ·
  rw [if_neg c2] at H;obtain ⟨c2b0,c2b1⟩ := eF c2;obtain ⟨t101,A3,H⟩ := bA_ H;obtain rfl := Option.some.inj H;go_enter Try.func128,Try.ntmps128;go_wp2_with (first | (go_at_call 124;(with_reducible refine (impl_isMemory.calls a0 t101 _ A3.out).mono ?_);rintro e w' ⟨rfl,⟨nd,rfl⟩⟩));go_ret;exact ⟨by first | rfl | (simp;done) | (simp [*];done),by repeat (first | exact Drawn0.refl _ | apply Drawn0.step)⟩

/-! ### impl_isPlain: function 129 -/
def impl_isPlain.f (a0 : Int) : Option (Bool) := if a0 = 2 then (some true) else (if a0 = 5 then (some true) else (some (a0 == 6)))
set_option maxHeartbeats 8000000 in
set_option maxRecDepth 100000 in
theorem impl_isPlain.calls (a0 : Int) (r : Bool) (w : World) (h : impl_isPlain.f a0 = some r) :
  Calls Try.prog 129 #[.int .i64 a0] w fun e w' => e = .returned (.bool r) ∧ Drawn0 w w' := by
 unfold impl_isPlain.f at h;have H := h;clear h;by_cases c2 : a0 = 2;{rw [if_pos c2] at H;obtain ⟨c2b0,c2b1⟩ := eT c2;clear c2;obtain rfl := Option.some.inj H;go_enter Try.func129,Try.ntmps129;go_wp2;go_ret;exact ⟨by first | rfl | (simp;done) | (simp [*];done),by repeat (first | exact Drawn0.refl _ | apply Drawn0.step)⟩}
 ·
  rw [if_neg c2] at H;obtain ⟨c2b0,c2b1⟩ := eF c2;by_cases c3 : a0 = 5;{rw [if_pos c3] at H;obtain ⟨c3b0,c3b1⟩ := eT c3;clear c3;obtain rfl := Option.some.inj H;go_enter Try.func129,Try.ntmps129;go_wp2;go_ret;exact ⟨by first | rfl | (simp;done) | (simp [*];done),by repeat (first | exact Drawn0.refl _ | apply Drawn0.step)⟩};{rw [if_neg c3] at H;obtain ⟨c3b0,c3b1⟩ := eF c3;obtain rfl := Option.some.inj H;go_enter Try.func129,Try.ntmps129;go_wp2;go_ret;exact ⟨by first | rfl | (simp;done) | (simp [*];done),by repeat (first | exact Drawn0.refl _ | apply Drawn0.step)⟩}

/-! ### impl_isNow: function 131 -/
def impl_isNow.f (a0_0 : Int) (a0_1 : Int) (a0_2 : Int) : Option (Bool) := if a0_0 = 7 then (some (decide (a0_2 ≤ 1023))) else (some false)
set_option maxHeartbeats 8000000 in
set_option maxRecDepth 100000 in
theorem impl_isNow.calls (a0_0 : Int) (a0_1 : Int) (a0_2 : Int) (r : Bool) (w : World) (h : impl_isNow.f a0_0 a0_1 a0_2 = some r) :
  Calls Try.prog 131 #[.agg #[.int .i64 a0_0,.int .i64 a0_1,.int .i64 a0_2]] w fun e w' => e = .returned (.bool r) ∧ Below w.heap.size w w' := by
 have hu75 := Try.underlying75;have HB := aS (Below.refl w.heap.size w);unfold impl_isNow.f at h;have H := h;clear h;by_cases c2 : a0_0 = 7
 ·
  rw [if_pos c2] at H;obtain ⟨c2b0,c2b1⟩ := eT c2;clear c2;obtain rfl := Option.some.inj H;go_enter Try.func131,Try.ntmps131;go_wp2_with (first | ((with_reducible refine gD 1 rfl ?_);refine bX (w:=w) #[.int .i64 a0_0,.int .i64 a0_1,.int .i64 a0_2] 75 ?_;clear HB;intro gb101 w3 HB BK101 GW101;refine zz3 BK101.out ?_;intros));go_ret;exact ⟨oE,oL⟩
 ·
  rw [if_neg c2] at H;obtain ⟨c2b0,c2b1⟩ := eF c2;obtain rfl := Option.some.inj H;go_enter Try.func131,Try.ntmps131;go_wp2_with (first | ((with_reducible refine gD 1 rfl ?_);refine bX (w:=w) #[.int .i64 a0_0,.int .i64 a0_1,.int .i64 a0_2] 75 ?_;clear HB;intro gb101 w5 HB BK101 GW101;refine zz3 BK101.out ?_;intros));go_ret;exact ⟨oE,oL⟩

/-! ### impl_isFlow: function 130 -/
def impl_isFlow.j0 : Nat → Bool → Int → Int → Int → Int → Int → Int → Int → Option (Bool)
 | 0,_,_,_,_,_,_,_,_ => none
 | k + 1,x3,x102000,x102001,x102002,x102003,x102004,x102005,x102006 => if x3 = true then (some false) else (if x102006 = 3 then (if x102002 = 0 then ((impl_isNow.f x102003 x102004 x102005).bind fun t102 => (some t102)) else (some false)) else (if x102006 < 3 then (if x102002 = 0 then (some (x102003 == 0 && (x102004 == 0 && (x102005 == 0)))) else (some false)) else (some (x102003 == 0 && (x102004 == 0 && (x102005 == 0))))))
def impl_isFlow.f (k : Nat) (a0_0 : Int) (a0_1 : Int) (a0_2 : Int) (a0_3 : Int) (a0_4 : Int) (a0_5 : Int) (a0_6 : Int) : Option (Bool) := if a0_1 = 2 then (impl_isFlow.j0 k (decide (a0_6 > 6)) a0_0 a0_1 a0_2 a0_3 a0_4 a0_5 a0_6) else (impl_isFlow.j0 k true a0_0 a0_1 a0_2 a0_3 a0_4 a0_5 a0_6)
theorem impl_isFlow.mono_l : ∀ k,(∀ y0 y1 y2 y3 y4 y5 y6 y7,LeO (impl_isFlow.j0 k y0 y1 y2 y3 y4 y5 y6 y7) (impl_isFlow.j0 (k + 1) y0 y1 y2 y3 y4 y5 y6 y7))
 | 0 => fun _ _ _ _ _ _ _ _ r h => by simp [impl_isFlow.j0] at h
 | k + 1 => by
  have ih0 := impl_isFlow.mono_l k
  ·
   intro y0 y1 y2 y3 y4 y5 y6 y7
   unfold impl_isFlow.j0
   with_reducible repeat' first | exact ih0 _ _ _ _ _ _ _ _ | exact LeO.refl _ | exact LeO.none _ | refine LeO.ite ?_ ?_ | refine LeO.bind ?_ (fun _ => ?_)
theorem impl_isFlow.mono : ∀ a0 a1 a2 a3 a4 a5 a6 k,LeO (impl_isFlow.f k a0 a1 a2 a3 a4 a5 a6) (impl_isFlow.f (k + 1) a0 a1 a2 a3 a4 a5 a6) := by
 intro a0 a1 a2 a3 a4 a5 a6 k
 have ih0 := impl_isFlow.mono_l k
 unfold impl_isFlow.f
 with_reducible repeat' first | exact ih0 _ _ _ _ _ _ _ _ | exact LeO.refl _ | exact LeO.none _ | refine LeO.ite ?_ ?_ | refine LeO.bind ?_ (fun _ => ?_)
set_option maxHeartbeats 8000000 in
set_option maxRecDepth 100000 in
theorem impl_isFlow.calls (k : Nat) (a0_0 : Int) (a0_1 : Int) (a0_2 : Int) (a0_3 : Int) (a0_4 : Int) (a0_5 : Int) (a0_6 : Int) (r : Bool) (w : World) (h : impl_isFlow.f k a0_0 a0_1 a0_2 a0_3 a0_4 a0_5 a0_6 = some r) :
  Calls Try.prog 130 #[.agg #[.int .i64 a0_0,.int .i64 a0_1,.int .i64 a0_2,.int .i64 a0_3,.int .i64 a0_4,.int .i64 a0_5,.int .i64 a0_6]] w fun e w' => e = .returned (.bool r) ∧ Below w.heap.size w w' := by
 have hu77 := Try.underlying77;have hu75 := Try.underlying75;have HB := aS (Below.refl w.heap.size w);unfold impl_isFlow.f at h;have H := h;clear h;have HC2 := aS H;clear H;go_enter Try.func130,Try.ntmps130;go_upto_region 1 with (first | ((with_reducible refine gD 1 rfl ?_);refine bX (w:=w) #[.int .i64 a0_0,.int .i64 a0_1,.int .i64 a0_2,.int .i64 a0_3,.int .i64 a0_4,.int .i64 a0_5,.int .i64 a0_6] 77 ?_;clear HB;intro gb101 w3 HB BK101 GW101));(try simp only [Act.put,List.setIfInBounds_toArray,List.set_cons_zero,List.set_cons_succ]);go_cut [3] (fun v3 wc => ∃ (kq : Nat) (x3_1 : Bool),v3 = .bool x3_1 ∧ Aside0 (impl_isFlow.j0 kq x3_1 a0_0 a0_1 a0_2 a0_3 a0_4 a0_5 a0_6 = some r) ∧ Aside0 (kq ≤ k) ∧ Aside0 (wc.heap[gb101]? = some (.cells #[.int .i64 a0_0,.int .i64 a0_1,.int .i64 a0_2,.int .i64 a0_3,.int .i64 a0_4,.int .i64 a0_5,.int .i64 a0_6] 77 (0,0))) ∧ Aside0 (Below w.heap.size w wc))
 case first =>
  have H := HC2.out;clear HC2;by_cases c4 : a0_1 = 2;{rw [if_pos c4] at H;obtain ⟨c4b0,c4b1⟩ := eT c4;clear c4;(first | rw [c4b0] | (simp only [i64_w,i32_w];rw [c4b0]) | skip);have H' := aS H;clear H;refine zz7 BK101.out ?_;intros;go_wp2;go_meet;case rel => exact ⟨_,(decide (a0_6 > 6)),oE,H',⟨by first | omega | exact Nat.le_refl _⟩,⟨oB BK101.out⟩,⟨oL⟩⟩};{rw [if_neg c4] at H;obtain ⟨c4b0,c4b1⟩ := eF c4;(first | rw [c4b0] | (simp only [i64_w,i32_w];rw [c4b0]) | skip);have H' := aS H;clear H;refine zz7 BK101.out ?_;intros;go_wp2;go_meet;case rel => exact ⟨_,(true),oE,H',⟨by first | omega | exact Nat.le_refl _⟩,⟨oB BK101.out⟩,⟨oL⟩⟩}
 case rest =>
  clear HC2;obtain ⟨kq,x3_1,rfl,HA,HJ1,BK101,HB⟩ := hcut;cases kq with
  | zero => exact absurd HA.out (by simp [impl_isFlow.j0])
  | succ kj1 =>
   have H := HA.out;clear HA;simp only [impl_isFlow.j0] at H;by_cases c7 : x3_1 = true;{subst c7;replace H := iT H;obtain rfl := Option.some.inj H;go_wp2;go_ret;exact ⟨oE,oL⟩}
   ·
    replace c7 := Bool.eq_false_iff.mpr c7;subst c7;replace H := iF H;by_cases c8 : a0_6 = 3
    ·
     rw [if_pos c8] at H;obtain ⟨c8b0,c8b1⟩ := eT c8;clear c8;by_cases c9 : a0_2 = 0
     ·
      rw [if_pos c9] at H;obtain ⟨c9b0,c9b1⟩ := eT c9;clear c9;obtain ⟨t102,A10,H⟩ := bA_ H;obtain rfl := Option.some.inj H;refine zz7 BK101.out ?_;intros;go_wp2_with (first | (go_at_call 131;(with_reducible refine (impl_isNow.calls a0_3 a0_4 a0_5 t102 _ A10.out).mono ?_);rintro e w12 ⟨rfl,hb⟩;refine mk2 (xB BK101 hb) (xL hb) ?_;clear BK101 HB;intro BK101 HB));go_ret;exact ⟨oE,oL⟩
     · rw [if_neg c9] at H;obtain ⟨c9b0,c9b1⟩ := eF c9;obtain rfl := Option.some.inj H;refine zz7 BK101.out ?_;intros;go_wp2;go_ret;exact ⟨oE,oL⟩
    ·
     rw [if_neg c8] at H;obtain ⟨c8b0,c8b1⟩ := eF c8;by_cases c14 : a0_6 < 3
     ·
      rw [if_pos c14] at H;have c14b0 := decide_eq_true c14;clear c14;by_cases c15 : a0_2 = 0;{rw [if_pos c15] at H;obtain ⟨c15b0,c15b1⟩ := eT c15;clear c15;obtain rfl := Option.some.inj H;refine zz7 BK101.out ?_;intros;go_wp2;go_ret;exact ⟨oE,oL⟩};{rw [if_neg c15] at H;obtain ⟨c15b0,c15b1⟩ := eF c15;obtain rfl := Option.some.inj H;refine zz7 BK101.out ?_;intros;go_wp2;go_ret;exact ⟨oE,oL⟩}
     · rw [if_neg c14] at H;have c14b0 := decide_eq_false c14;clear c14;obtain rfl := Option.some.inj H;refine zz7 BK101.out ?_;intros;go_wp2;go_ret;exact ⟨oE,oL⟩

end Go.Proofs.Ytjnifnhpnccpcaa.H
