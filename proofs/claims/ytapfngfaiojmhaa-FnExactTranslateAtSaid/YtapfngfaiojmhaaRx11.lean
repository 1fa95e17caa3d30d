-- Made by this session's program gprint.py out of the translation. Not trusted: Lean checks it.
import Derived.Test.YtapfngfaiojmhaaRx0
import Derived.Test.YtapfngfaiojmhaaRx10
namespace Go.Proofs.Ytapfngfaiojmhaa.R
open Go.RowKit Go.Proofs.YtapfngfaiojmhaaW.PrintWords Go.Proofs.YtapfngfaiojmhaaW.PrintLast Go.Proofs.YtapfngfaiojmhaaW.PrintMore
attribute [local go_sem] max2_int min2_int max_two min_two max_three min_three max_four min_four   -- for this text's walks alone
set_option linter.unusedVariables false
set_option linter.unusedSimpArgs false

/-! ### impl_isWord: function 94 -/
def impl_isWord.f (a0 : Int) : Option (Bool) := (impl_within.f a0 0 65535).bind fun t101 => (some t101)
set_option maxHeartbeats 8000000 in
set_option maxRecDepth 100000 in
theorem impl_isWord.calls (a0 : Int) (r : Bool) (w : World) (h : impl_isWord.f a0 = some r) :
  Calls Try.prog 94 #[.int .i64 a0] w fun e w' => e = .returned (.bool r) ∧ Drawn0 w w' := by
 have H : ((impl_within.f a0 0 65535).bind fun t101 => (some t101)) = some r := h;clear h;obtain ⟨t101,A20,H⟩ := bE H;have A2 := aS A20;clear A20;obtain rfl := Option.some.inj H;go_enter Try.func94,Try.ntmps94;go_wp2_with (first | ((with_reducible refine gate_callee (f := 29) rfl ?_);refine goesQ (some 4) Try.func29 #[.int .i64 a0,.int .i64 0,.int .i64 65535] (impl_within.calls a0 0 65535 t101 _ A2.out) fun nd => ?_));go_ret;exact ⟨by first | rfl | (simp;done) | (simp [*];done),by repeat (first | exact Drawn0.refl _ | apply Drawn0.step)⟩

/-! ### impl_isSize: function 99 -/
def impl_isSize.f (a0 : Int) : Option (Bool) := if a0 = 1 then (some true) else (some (a0 == 2))
set_option maxHeartbeats 8000000 in
set_option maxRecDepth 100000 in
theorem impl_isSize.calls (a0 : Int) (r : Bool) (w : World) (h : impl_isSize.f a0 = some r) :
  Calls Try.prog 99 #[.int .i64 a0] w fun e w' => e = .returned (.bool r) ∧ Drawn0 w w' := by
 have H : (if a0 = 1 then (some true) else (some (a0 == 2))) = some r := h;clear h;by_cases c2 : a0 = 1;{rw [if_pos c2] at H;obtain ⟨c2b0,c2b1⟩ := eT c2;clear c2;obtain rfl := Option.some.inj H;go_enter Try.func99,Try.ntmps99;go_wp2;go_ret;exact ⟨by first | rfl | (simp;done) | (simp [*];done),by repeat (first | exact Drawn0.refl _ | apply Drawn0.step)⟩};{rw [if_neg c2] at H;obtain ⟨c2b0,c2b1⟩ := eF c2;obtain rfl := Option.some.inj H;go_enter Try.func99,Try.ntmps99;go_wp2;go_ret;exact ⟨by first | rfl | (simp;done) | (simp [*];done),by repeat (first | exact Drawn0.refl _ | apply Drawn0.step)⟩}

/-! ### impl_limitOf: function 122 -/
def impl_limitOf.f (a0 : Int) : Option (Int) := if 0 ≤ (wrap64 (8 * a0)) then (some (shl .i64 1 (wrap64 (8 * a0)))) else (none)
set_option maxHeartbeats 8000000 in
set_option maxRecDepth 100000 in
theorem impl_limitOf.calls (a0 : Int) (r : Int) (w : World) (h : impl_limitOf.f a0 = some r) :
  Calls Try.prog 122 #[.int .i64 a0] w fun e w' => e = .returned (.int .i64 r) ∧ Drawn0 w w' := by
 have H : (if 0 ≤ (wrap64 (8 * a0)) then (some (shl .i64 1 (wrap64 (8 * a0)))) else (none)) = some r := h;clear h;obtain ⟨ji2,hji2⟩ : ∃ j_ : Int,(wrap64 (8 * a0)) = j_ := ⟨_,rfl⟩;replace H : (if 0 ≤ (ji2) then (some (shl .i64 1 (ji2))) else (none)) = some r := by first | (rw [hji2] at H;exact H) | (simp only [hji2] at H ⊢;exact H)
 have hji2w : (IntKind.i64.wrap (8 * a0)) = ji2 := (i64_w _).trans hji2;by_cases c3 : 0 ≤ (ji2)
 ·
  rw [if_pos c3] at H;have c3b0 := eq_true c3;have c3b1 : decide (0 ≤ (ji2)) = true := decide_eq_true c3;clear c3;obtain ⟨ji4,hji4⟩ : ∃ j_ : Int,(shl .i64 1 (ji2)) = j_ := ⟨_,rfl⟩;replace H : (some ji4) = some r := by first | (rw [hji4] at H;exact H) | (simp only [hji4] at H ⊢;exact H)
  have hji4_ : (IntKind.i64.wrap (1 * 2 ^ min (ji2).toNat 64)) = ji4 := hji4;have hji4z : (ji2) ≤ 64 → (IntKind.i64.wrap (1 * 2 ^ (ji2).toNat)) = ji4 := shl_small hji4;have hji4u : (IntKind.i64.wrap (2 ^ min (ji2).toNat 64)) = ji4 := by have h_ := hji4_;rw [Int.one_mul] at h_;exact h_
  have hji4v : (ji2) ≤ 64 → (IntKind.i64.wrap (2 ^ (ji2).toNat)) = ji4 := fun hle_ => by have h_ := hji4z hle_;rw [Int.one_mul] at h_;exact h_
  have hji4y : (wrap64 (1 * 2 ^ min (ji2).toNat 64)) = ji4 := (i64_w _).symm.trans hji4_;have hji4x : (ji2) ≤ 64 → (wrap64 (1 * 2 ^ (ji2).toNat)) = ji4 := fun h_ => (i64_w _).symm.trans (hji4z h_)
  obtain rfl := Option.some.inj H;go_enter Try.func122,Try.ntmps122;go_wp2;go_ret;exact ⟨by first | rfl | (simp;done) | (simp only [← hji2,← hji4] <;> (first | rfl | simp)) | (simp [*];done),by repeat (first | exact Drawn0.refl _ | apply Drawn0.step)⟩
 · rw [if_neg c3] at H;exact absurd H (by simp)

/-! ### impl_isValue: function 95 -/
def impl_isValue.f (a0 : Int) (a1 : Int) : Option (Bool) := (impl_isSize.f a0).bind fun t101 => (if t101 = true then ((impl_limitOf.f a0).bind fun t102 => ((impl_within.f a1 0 (wrap64 (t102 - 1))).bind fun t103 => (some t103))) else (some false))
set_option maxHeartbeats 8000000 in
set_option maxRecDepth 100000 in
theorem impl_isValue.calls (a0 : Int) (a1 : Int) (r : Bool) (w : World) (h : impl_isValue.f a0 a1 = some r) :
  Calls Try.prog 95 #[.int .i64 a0,.int .i64 a1] w fun e w' => e = .returned (.bool r) ∧ Drawn0 w w' := by
 have H : ((impl_isSize.f a0).bind fun t101 => (if t101 = true then ((impl_limitOf.f a0).bind fun t102 => ((impl_within.f a1 0 (wrap64 (t102 - 1))).bind fun t103 => (some t103))) else (some false))) = some r := h;clear h;obtain ⟨t101,A30,H⟩ := bE H;have A3 := aS A30;clear A30;by_cases c4 : t101 = true
 ·
  subst c4;replace H := iT H;obtain ⟨t102,A50,H⟩ := bE H;have A5 := aS A50;clear A50;obtain ⟨t103,A60,H⟩ := bE H;have A6 := aS A60;clear A60;obtain rfl := Option.some.inj H;go_enter Try.func95,Try.ntmps95;go_wp2_with (first | ((with_reducible refine gate_callee (f := 99) rfl ?_);refine goesQ (some 6) Try.func99 #[.int .i64 a0] (impl_isSize.calls a0 true _ A3.out) fun nd => ?_) | (go_at_call 122;(with_reducible refine (impl_limitOf.calls a0 t102 _ A5.out).mono ?_);rintro e w' ⟨rfl,⟨nd,rfl⟩⟩) | (go_at_call 29;(with_reducible refine (impl_within.calls a1 0 (wrap64 (t102 - 1)) t103 _ A6.out).mono ?_);rintro e w' ⟨rfl,⟨nd,rfl⟩⟩));go_ret;exact ⟨by first | rfl | (simp;done) | (simp [*];done),by repeat (first | exact Drawn0.refl _ | apply Drawn0.step)⟩
 ·
  replace c4 := Bool.eq_false_iff.mpr c4;subst c4;replace H := iF H;obtain rfl := Option.some.inj H;go_enter Try.func95,Try.ntmps95;go_wp2_with (first | ((with_reducible refine gate_callee (f := 99) rfl ?_);refine goesQ (some 6) Try.func99 #[.int .i64 a0] (impl_isSize.calls a0 false _ A3.out) fun nd => ?_));go_ret;exact ⟨by first | rfl | (simp;done) | (simp [*];done),by repeat (first | exact Drawn0.refl _ | apply Drawn0.step)⟩

/-! ### impl_isAccess: function 63 -/
def impl_isAccess.f (a0_0 : Int) (a0_1 : Int) (a0_2 : Int) (a0_3 : Int) (a0_4 : Int) : Option (Bool) := (impl_within.f a0_0 1 3).bind fun t102 => (if t102 = true then ((impl_isWord.f a0_2).bind fun t103 => (if t103 = true then ((impl_isValue.f a0_1 a0_3).bind fun t104 => (if t104 = true then ((impl_within.f a0_4 0 3).bind fun t105 => (if t105 = true then (if a0_0 = 3 then (some (!(a0_4 == 0))) else (some (!false))) else (some false))) else (some false))) else (some false))) else (some false))
set_option maxHeartbeats 8000000 in
set_option maxRecDepth 100000 in
theorem impl_isAccess.calls (a0_0 : Int) (a0_1 : Int) (a0_2 : Int) (a0_3 : Int) (a0_4 : Int) (r : Bool) (w : World) (h : impl_isAccess.f a0_0 a0_1 a0_2 a0_3 a0_4 = some r) :
  Calls Try.prog 63 #[.agg #[.int .i64 a0_0,.int .i64 a0_1,.int .i64 a0_2,.int .i64 a0_3,.int .i64 a0_4]] w fun e w' => e = .returned (.bool r) ∧ Below w.heap.size w w' := by
 have hu89 := Try.underlying89;have HB := aS (Below.refl w.heap.size w);have H : ((impl_within.f a0_0 1 3).bind fun t102 => (if t102 = true then ((impl_isWord.f a0_2).bind fun t103 => (if t103 = true then ((impl_isValue.f a0_1 a0_3).bind fun t104 => (if t104 = true then ((impl_within.f a0_4 0 3).bind fun t105 => (if t105 = true then (if a0_0 = 3 then (some (!(a0_4 == 0))) else (some (!false))) else (some false))) else (some false))) else (some false))) else (some false))) = some r := h;clear h;obtain ⟨t102,A20,H⟩ := bE H;have A2 := aS A20;clear A20;by_cases c3 : t102 = true
 ·
  subst c3;replace H := iT H;obtain ⟨t103,A40,H⟩ := bE H;have A4 := aS A40;clear A40;by_cases c5 : t103 = true
  ·
   subst c5;replace H := iT H;obtain ⟨t104,A60,H⟩ := bE H;have A6 := aS A60;clear A60;by_cases c7 : t104 = true
   ·
    subst c7;replace H := iT H;obtain ⟨t105,A80,H⟩ := bE H;have A8 := aS A80;clear A80;by_cases c9 : t105 = true
    ·
     subst c9;replace H := iT H;by_cases c10 : a0_0 = 3
     ·
      rw [if_pos c10] at H;obtain ⟨c10b0,c10b1⟩ := eT c10;clear c10;obtain rfl := Option.some.inj H;go_enter Try.func63,Try.ntmps63;go_wp2_with (first | ((with_reducible refine gate_dst (N := 1) rfl ?_);refine boxE (w := w) oL (cs := #[.int .i64 a0_0,.int .i64 a0_1,.int .i64 a0_2,.int .i64 a0_3,.int .i64 a0_4]) (t := 89) ?_;clear HB;intro gb101 w11 HB BK101 GW101;have GE101 := GW101;refine zz5 BK101.out ?_;intros) | ((with_reducible refine gate_callee (f := 29) rfl ?_);refine goesQ (some 5) Try.func29 #[.int .i64 a0_0,.int .i64 1,.int .i64 3] (impl_within.calls a0_0 1 3 true _ A2.out) fun nd => ?_) | (go_at_call 94;(with_reducible refine (impl_isWord.calls a0_2 true _ A4.out).mono ?_);rintro e w' ⟨rfl,⟨nd,rfl⟩⟩) | (go_at_call 95;(with_reducible refine (impl_isValue.calls a0_1 a0_3 true _ A6.out).mono ?_);rintro e w' ⟨rfl,⟨nd,rfl⟩⟩) | (go_at_call 29;(with_reducible refine (impl_within.calls a0_4 0 3 true _ A8.out).mono ?_);rintro e w' ⟨rfl,⟨nd,rfl⟩⟩));go_ret;exact ⟨oE,oL⟩
     ·
      rw [if_neg c10] at H;obtain ⟨c10b0,c10b1⟩ := eF c10;obtain rfl := Option.some.inj H;go_enter Try.func63,Try.ntmps63;go_wp2_with (first | ((with_reducible refine gate_dst (N := 1) rfl ?_);refine boxE (w := w) oL (cs := #[.int .i64 a0_0,.int .i64 a0_1,.int .i64 a0_2,.int .i64 a0_3,.int .i64 a0_4]) (t := 89) ?_;clear HB;intro gb101 w13 HB BK101 GW101;have GE101 := GW101;refine zz5 BK101.out ?_;intros) | ((with_reducible refine gate_callee (f := 29) rfl ?_);refine goesQ (some 5) Try.func29 #[.int .i64 a0_0,.int .i64 1,.int .i64 3] (impl_within.calls a0_0 1 3 true _ A2.out) fun nd => ?_) | (go_at_call 94;(with_reducible refine (impl_isWord.calls a0_2 true _ A4.out).mono ?_);rintro e w' ⟨rfl,⟨nd,rfl⟩⟩) | (go_at_call 95;(with_reducible refine (impl_isValue.calls a0_1 a0_3 true _ A6.out).mono ?_);rintro e w' ⟨rfl,⟨nd,rfl⟩⟩) | (go_at_call 29;(with_reducible refine (impl_within.calls a0_4 0 3 true _ A8.out).mono ?_);rintro e w' ⟨rfl,⟨nd,rfl⟩⟩));go_ret;exact ⟨oE,oL⟩
    ·
     replace c9 := Bool.eq_false_iff.mpr c9;subst c9;replace H := iF H;obtain rfl := Option.some.inj H;go_enter Try.func63,Try.ntmps63;go_wp2_with (first | ((with_reducible refine gate_dst (N := 1) rfl ?_);refine boxE (w := w) oL (cs := #[.int .i64 a0_0,.int .i64 a0_1,.int .i64 a0_2,.int .i64 a0_3,.int .i64 a0_4]) (t := 89) ?_;clear HB;intro gb101 w15 HB BK101 GW101;have GE101 := GW101;refine zz5 BK101.out ?_;intros) | ((with_reducible refine gate_callee (f := 29) rfl ?_);refine goesQ (some 5) Try.func29 #[.int .i64 a0_0,.int .i64 1,.int .i64 3] (impl_within.calls a0_0 1 3 true _ A2.out) fun nd => ?_) | (go_at_call 94;(with_reducible refine (impl_isWord.calls a0_2 true _ A4.out).mono ?_);rintro e w' ⟨rfl,⟨nd,rfl⟩⟩) | (go_at_call 95;(with_reducible refine (impl_isValue.calls a0_1 a0_3 true _ A6.out).mono ?_);rintro e w' ⟨rfl,⟨nd,rfl⟩⟩) | (go_at_call 29;(with_reducible refine (impl_within.calls a0_4 0 3 false _ A8.out).mono ?_);rintro e w' ⟨rfl,⟨nd,rfl⟩⟩));go_ret;exact ⟨oE,oL⟩
   ·
    replace c7 := Bool.eq_false_iff.mpr c7;subst c7;replace H := iF H;obtain rfl := Option.some.inj H;go_enter Try.func63,Try.ntmps63;go_wp2_with (first | ((with_reducible refine gate_dst (N := 1) rfl ?_);refine boxE (w := w) oL (cs := #[.int .i64 a0_0,.int .i64 a0_1,.int .i64 a0_2,.int .i64 a0_3,.int .i64 a0_4]) (t := 89) ?_;clear HB;intro gb101 w17 HB BK101 GW101;have GE101 := GW101;refine zz5 BK101.out ?_;intros) | ((with_reducible refine gate_callee (f := 29) rfl ?_);refine goesQ (some 5) Try.func29 #[.int .i64 a0_0,.int .i64 1,.int .i64 3] (impl_within.calls a0_0 1 3 true _ A2.out) fun nd => ?_) | (go_at_call 94;(with_reducible refine (impl_isWord.calls a0_2 true _ A4.out).mono ?_);rintro e w' ⟨rfl,⟨nd,rfl⟩⟩) | (go_at_call 95;(with_reducible refine (impl_isValue.calls a0_1 a0_3 false _ A6.out).mono ?_);rintro e w' ⟨rfl,⟨nd,rfl⟩⟩));go_ret;exact ⟨oE,oL⟩
  ·
   replace c5 := Bool.eq_false_iff.mpr c5;subst c5;replace H := iF H;obtain rfl := Option.some.inj H;go_enter Try.func63,Try.ntmps63;go_wp2_with (first | ((with_reducible refine gate_dst (N := 1) rfl ?_);refine boxE (w := w) oL (cs := #[.int .i64 a0_0,.int .i64 a0_1,.int .i64 a0_2,.int .i64 a0_3,.int .i64 a0_4]) (t := 89) ?_;clear HB;intro gb101 w19 HB BK101 GW101;have GE101 := GW101;refine zz5 BK101.out ?_;intros) | ((with_reducible refine gate_callee (f := 29) rfl ?_);refine goesQ (some 5) Try.func29 #[.int .i64 a0_0,.int .i64 1,.int .i64 3] (impl_within.calls a0_0 1 3 true _ A2.out) fun nd => ?_) | (go_at_call 94;(with_reducible refine (impl_isWord.calls a0_2 false _ A4.out).mono ?_);rintro e w' ⟨rfl,⟨nd,rfl⟩⟩));go_ret;exact ⟨oE,oL⟩
 ·
  replace c3 := Bool.eq_false_iff.mpr c3;subst c3;replace H := iF H;obtain rfl := Option.some.inj H;go_enter Try.func63,Try.ntmps63;go_wp2_with (first | ((with_reducible refine gate_dst (N := 1) rfl ?_);refine boxE (w := w) oL (cs := #[.int .i64 a0_0,.int .i64 a0_1,.int .i64 a0_2,.int .i64 a0_3,.int .i64 a0_4]) (t := 89) ?_;clear HB;intro gb101 w21 HB BK101 GW101;have GE101 := GW101;refine zz5 BK101.out ?_;intros) | ((with_reducible refine gate_callee (f := 29) rfl ?_);refine goesQ (some 5) Try.func29 #[.int .i64 a0_0,.int .i64 1,.int .i64 3] (impl_within.calls a0_0 1 3 false _ A2.out) fun nd => ?_));go_ret;exact ⟨oE,oL⟩

/-! ### impl_GoodBus_2: function 62 -/
def impl_GoodBus_2.f (a0_0 : Int) (a0_1 : Int) (a0_2 : Int) (a0_3 : Int) (a0_4 : Int) : Option (Bool) := (impl_isAccess.f a0_0 a0_1 a0_2 a0_3 a0_4).bind fun t102 => (some (!t102))
set_option maxHeartbeats 8000000 in
set_option maxRecDepth 100000 in
theorem impl_GoodBus_2.calls (a0_0 : Int) (a0_1 : Int) (a0_2 : Int) (a0_3 : Int) (a0_4 : Int) (r : Bool) (w : World) (h : impl_GoodBus_2.f a0_0 a0_1 a0_2 a0_3 a0_4 = some r) :
  Calls Try.prog 62 #[.agg #[.int .i64 a0_0,.int .i64 a0_1,.int .i64 a0_2,.int .i64 a0_3,.int .i64 a0_4]] w fun e w' => e = .returned (.bool r) ∧ Below w.heap.size w w' := by
 have hu89 := Try.underlying89;have HB := aS (Below.refl w.heap.size w);have H : ((impl_isAccess.f a0_0 a0_1 a0_2 a0_3 a0_4).bind fun t102 => (some (!t102))) = some r := h;clear h;obtain ⟨t102,A20,H⟩ := bE H;have A2 := aS A20;clear A20;obtain rfl := Option.some.inj H;go_enter Try.func62,Try.ntmps62;go_wp2_with (first | ((with_reducible refine gate_dst (N := 1) rfl ?_);refine boxE (w := w) oL (cs := #[.int .i64 a0_0,.int .i64 a0_1,.int .i64 a0_2,.int .i64 a0_3,.int .i64 a0_4]) (t := 89) ?_;clear HB;intro gb101 w3 HB BK101 GW101;have GE101 := GW101;refine zz5 BK101.out ?_;intros) | ((with_reducible refine gate_callee (f := 63) rfl ?_);refine goesL_ (some 4) rfl rfl Try.func63 (by kernel_rfl) rfl #[.agg #[.int .i64 a0_0,.int .i64 a0_1,.int .i64 a0_2,.int .i64 a0_3,.int .i64 a0_4]] rfl oA ?_;(with_reducible refine (impl_isAccess.calls a0_0 a0_1 a0_2 a0_3 a0_4 t102 _ A2.out).mono ?_);rintro e w5 ⟨rfl,hb⟩;refine ⟨_,rfl,?_⟩;refine mk2 (blk_below (oB BK101.out) hb) (below_step oL hb) ?_;clear BK101 HB;intro BK101 HB));go_ret;exact ⟨oE,oL⟩

/-! ### slices_IndexFunc_92_g60: function 92 -/
def slices_IndexFunc_92_g60.l0 : Nat → List Int → Int → Int → Option (Int)
 | 0,_,_,_ => none
 | k + 1,x0,x7,x8 => if x8 < x7 then (if 0 ≤ x8 then (if x8 < (x0.length : Int) then ((impl_GoodBus_1.f (rd x0 x8)).bind fun t102 => (if t102 = true then (some x8) else (slices_IndexFunc_92_g60.l0 k x0 x7 (wrap64 (x8 + 1))))) else (none)) else (none)) else (some (-1))
def slices_IndexFunc_92_g60.f (k : Nat) (l0 : List Int)  : Option (Int) := slices_IndexFunc_92_g60.l0 k l0 (l0.length : Int) 0
theorem slices_IndexFunc_92_g60.mono_l : ∀ k,(∀ y0 y1 y2,LeO (slices_IndexFunc_92_g60.l0 k y0 y1 y2) (slices_IndexFunc_92_g60.l0 (k + 1) y0 y1 y2))
 | 0 => fun _ _ _ r h => by simp [slices_IndexFunc_92_g60.l0] at h
 | k + 1 => by
  have ih0 := slices_IndexFunc_92_g60.mono_l k
  ·
   intro y0 y1 y2
   unfold slices_IndexFunc_92_g60.l0
   repeat' first
   | (with_reducible exact ih0 _ _ _)
   | (with_reducible exact LeO.refl _)
   | (with_reducible exact LeO.none _)
   | (with_reducible refine LeO.ite ?_ ?_)
   | (with_reducible refine LeO.bind ?_ (fun _ => ?_))
theorem slices_IndexFunc_92_g60.mono : ∀ a0 k,LeO (slices_IndexFunc_92_g60.f k a0) (slices_IndexFunc_92_g60.f (k + 1) a0) := by
 intro a0 k
 have ih0 := slices_IndexFunc_92_g60.mono_l k
 unfold slices_IndexFunc_92_g60.f
 repeat' first
   | (with_reducible exact ih0 _ _ _)
   | (with_reducible exact LeO.refl _)
   | (with_reducible exact LeO.none _)
   | (with_reducible refine LeO.ite ?_ ?_)
   | (with_reducible refine LeO.bind ?_ (fun _ => ?_))
set_option maxHeartbeats 8000000 in
set_option maxRecDepth 100000 in
theorem slices_IndexFunc_92_g60.calls (k : Nat) (A0 : Option Addr) (c0 : Nat) (l0 : List Int)  (r : Int) (w : World) (hr0 : Kd.C (Kd.int .i64) w A0 l0.length l0) (hc0 : l0.length ≤ c0) (h : slices_IndexFunc_92_g60.f k l0 = some r) :
  Calls Try.prog 92 #[.slice A0 l0.length c0,(.func (.func 60) #[] #[])] w fun e w' => e = .returned (.int .i64 r) ∧ Drawn0 w w' := by
 have HR0 := aS hr0;have HC0 := aS hc0;clear hr0 hc0;have H : (slices_IndexFunc_92_g60.l0 k l0 (l0.length : Int) 0) = some r := h;clear h;have H' := aS H;clear H;go_enter Try.func92,Try.ntmps92;go_wp2;go_loopg [8] k (fun kq v8 w' => ∃ (x8_1 : Int),v8 = .int .i64 x8_1 ∧ Aside0 (slices_IndexFunc_92_g60.l0 kq l0 (l0.length : Int) x8_1 = some r) ∧ Aside0 (kq ≤ k) ∧ Drawn0 w w')
 case atStart => exact ⟨(0),oE,H',⟨Nat.le_refl _⟩,by repeat (first | exact Drawn0.refl _ | apply Drawn0.step)⟩
 case round =>
  clear H';obtain ⟨x8_1,rfl,HA,HK1,⟨m1,rfl⟩⟩ := hrel;cases gk with
  | zero => exact absurd HA.out (by simp [slices_IndexFunc_92_g60.l0])
  | succ k1 =>
   have H := HA.out;clear HA;simp only [slices_IndexFunc_92_g60.l0] at H;by_cases c3 : x8_1 < (l0.length : Int)
   ·
    rw [if_pos c3] at H;have c3b0 : decide (x8_1 < (l0.length : Int)) = true := decide_eq_true c3;clear c3;by_cases c4 : 0 ≤ x8_1
    ·
     rw [if_pos c4] at H;have c4b0 : decide (0 ≤ x8_1) = true := decide_eq_true c4;clear c4;by_cases c5 : x8_1 < (l0.length : Int)
     ·
      rw [if_pos c5] at H;have c5b0 : decide (x8_1 < (l0.length : Int)) = true := decide_eq_true c5;clear c5;obtain ⟨t102,A60,H⟩ := bE H;have A6 := aS A60;clear A60;by_cases c7 : t102 = true
      ·
       subst c7;replace H := iT H;obtain rfl := Option.some.inj H;have p101 : 0 ≤ (x8_1 : Int) := of_decide_eq_true (by first | (with_reducible assumption) | assumption);have q101 : x8_1 < (l0.length : Int) := of_decide_eq_true (by first | (with_reducible assumption) | assumption);obtain ⟨ad101,e101,hx101_0⟩ := Kd.at_int HR0.out x8_1 p101 q101;cases e101
       replace p101 := eq_true p101;replace q101 := eq_true q101;go_wp2_with (first | (go_at_call 60;(with_reducible refine (impl_GoodBus_1.calls (rd l0 x8_1) true _ A6.out).mono ?_);rintro e w' ⟨rfl,⟨nd,rfl⟩⟩));go_ret;exact ⟨by first | rfl | (simp;done) | (simp [*];done),by repeat (first | exact Drawn0.refl _ | apply Drawn0.step)⟩
      ·
       replace c7 := Bool.eq_false_iff.mpr c7;subst c7;replace H := iF H;have H' := aS H;clear H;have p101 : 0 ≤ (x8_1 : Int) := of_decide_eq_true (by first | (with_reducible assumption) | assumption);have q101 : x8_1 < (l0.length : Int) := of_decide_eq_true (by first | (with_reducible assumption) | assumption);obtain ⟨ad101,e101,hx101_0⟩ := Kd.at_int HR0.out x8_1 p101 q101;cases e101
       replace p101 := eq_true p101;replace q101 := eq_true q101;go_wp2_with (first | (go_at_call 60;(with_reducible refine (impl_GoodBus_1.calls (rd l0 x8_1) false _ A6.out).mono ?_);rintro e w' ⟨rfl,⟨nd,rfl⟩⟩));go_roundg k1;case measure => have := HK1.out;omega
       case rel => exact ⟨(wrap64 (x8_1 + 1)),oE,H',⟨by have := HK1.out;omega⟩,by repeat (first | exact Drawn0.refl _ | apply Drawn0.step)⟩
     · rw [if_neg c5] at H;exact absurd H (by simp)
    · rw [if_neg c4] at H;exact absurd H (by simp)
   · rw [if_neg c3] at H;have c3b0 : decide (x8_1 < (l0.length : Int)) = false := decide_eq_false c3;clear c3;obtain rfl := Option.some.inj H;go_wp2;go_ret;exact ⟨by first | rfl | (simp;done) | (simp [*];done),by repeat (first | exact Drawn0.refl _ | apply Drawn0.step)⟩

/-! ### slices_ContainsFunc_59_g60: function 59 -/
def slices_ContainsFunc_59_g60.f (k : Nat) (l0 : List Int)  : Option (Bool) := (slices_IndexFunc_92_g60.f k l0).bind fun t101 => (some (decide (t101 ≥ 0)))
theorem slices_ContainsFunc_59_g60.mono : ∀ a0 k,LeO (slices_ContainsFunc_59_g60.f k a0) (slices_ContainsFunc_59_g60.f (k + 1) a0) := by
 intro a0 k
 unfold slices_ContainsFunc_59_g60.f
 repeat' first
   | (with_reducible exact slices_IndexFunc_92_g60.mono _ _)
   | (with_reducible exact LeO.refl _)
   | (with_reducible exact LeO.none _)
   | (with_reducible refine LeO.ite ?_ ?_)
   | (with_reducible refine LeO.bind ?_ (fun _ => ?_))
set_option maxHeartbeats 8000000 in
set_option maxRecDepth 100000 in
theorem slices_ContainsFunc_59_g60.calls (k : Nat) (A0 : Option Addr) (c0 : Nat) (l0 : List Int)  (r : Bool) (w : World) (hr0 : Kd.C (Kd.int .i64) w A0 l0.length l0) (hc0 : l0.length ≤ c0) (h : slices_ContainsFunc_59_g60.f k l0 = some r) :
  Calls Try.prog 59 #[.slice A0 l0.length c0,(.func (.func 60) #[] #[])] w fun e w' => e = .returned (.bool r) ∧ Drawn0 w w' := by
 have HR0 := aS hr0;have HC0 := aS hc0;clear hr0 hc0;have H : ((slices_IndexFunc_92_g60.f k l0).bind fun t101 => (some (decide (t101 ≥ 0)))) = some r := h;clear h;obtain ⟨t101,A30,H⟩ := bE H;have A3 := aS A30;clear A30;obtain rfl := Option.some.inj H;go_enter Try.func59,Try.ntmps59;go_wp2_with (first | (go_at_call 92;(with_reducible refine (slices_IndexFunc_92_g60.calls k _ _ l0 t101 _ ?side1 ?side2 A3.out).mono ?_);(case side1 => repeat (first | exact HR0.out | (with_reducible refine Kd.C_alloc ?_ _) | (with_reducible refine Kd.C_drewN ?_ _) | (with_reducible refine Kd.C_drew ?_)));(case side2 => exact HC0.out);rintro e w' ⟨rfl,⟨nd,rfl⟩⟩));go_ret;exact ⟨by first | rfl | (simp;done) | (simp [*];done),by repeat (first | exact Drawn0.refl _ | apply Drawn0.step)⟩

/-! ### slices_IndexFunc_93_g62: function 93 -/
def slices_IndexFunc_93_g62.l0 : Nat → List (S89) → Int → Int → Option (Int)
 | 0,_,_,_ => none
 | k + 1,x0,x7,x8 => if x8 < x7 then (if 0 ≤ x8 then (if x8 < (x0.length : Int) then ((impl_GoodBus_2.f ((rd_T89 x0 x8).f0) ((rd_T89 x0 x8).f1) ((rd_T89 x0 x8).f2) ((rd_T89 x0 x8).f3) ((rd_T89 x0 x8).f4)).bind fun t102 => (if t102 = true then (some x8) else (slices_IndexFunc_93_g62.l0 k x0 x7 (wrap64 (x8 + 1))))) else (none)) else (none)) else (some (-1))
def slices_IndexFunc_93_g62.f (k : Nat) (l0 : List (S89))  : Option (Int) := slices_IndexFunc_93_g62.l0 k l0 (l0.length : Int) 0
theorem slices_IndexFunc_93_g62.mono_l : ∀ k,(∀ y0 y1 y2,LeO (slices_IndexFunc_93_g62.l0 k y0 y1 y2) (slices_IndexFunc_93_g62.l0 (k + 1) y0 y1 y2))
 | 0 => fun _ _ _ r h => by simp [slices_IndexFunc_93_g62.l0] at h
 | k + 1 => by
  have ih0 := slices_IndexFunc_93_g62.mono_l k
  ·
   intro y0 y1 y2
   unfold slices_IndexFunc_93_g62.l0
   repeat' first
   | (with_reducible exact ih0 _ _ _)
   | (with_reducible exact LeO.refl _)
   | (with_reducible exact LeO.none _)
   | (with_reducible refine LeO.ite ?_ ?_)
   | (with_reducible refine LeO.bind ?_ (fun _ => ?_))
theorem slices_IndexFunc_93_g62.mono : ∀ a0 k,LeO (slices_IndexFunc_93_g62.f k a0) (slices_IndexFunc_93_g62.f (k + 1) a0) := by
 intro a0 k
 have ih0 := slices_IndexFunc_93_g62.mono_l k
 unfold slices_IndexFunc_93_g62.f
 repeat' first
   | (with_reducible exact ih0 _ _ _)
   | (with_reducible exact LeO.refl _)
   | (with_reducible exact LeO.none _)
   | (with_reducible refine LeO.ite ?_ ?_)
   | (with_reducible refine LeO.bind ?_ (fun _ => ?_))
set_option maxHeartbeats 8000000 in
set_option maxRecDepth 100000 in
theorem slices_IndexFunc_93_g62.calls (k : Nat) (A0 : Option Addr) (c0 : Nat) (l0 : List (S89))  (r : Int) (w : World) (hr0 : Kd.C k89 w A0 l0.length l0) (hc0 : l0.length ≤ c0) (h : slices_IndexFunc_93_g62.f k l0 = some r) :
  Calls Try.prog 93 #[.slice A0 l0.length c0,(.func (.func 62) #[] #[])] w fun e w' => e = .returned (.int .i64 r) ∧ Below w.heap.size w w' := by
 have hu89 := Try.underlying89;have HR0 := aS hr0;have HC0 := aS hc0;clear hr0 hc0;have HB := aS (Below.refl w.heap.size w);have H : (slices_IndexFunc_93_g62.l0 k l0 (l0.length : Int) 0) = some r := h;clear h;have H' := aS H;clear H;go_enter Try.func93,Try.ntmps93;go_wp2;go_loopg [8] k (fun kq v8 w' => ∃ (x8_1 : Int),v8 = .int .i64 x8_1 ∧ Aside0 (slices_IndexFunc_93_g62.l0 kq l0 (l0.length : Int) x8_1 = some r) ∧ Aside0 (kq ≤ k) ∧ Aside0 (Below w.heap.size w w'))
 case atStart => exact ⟨(0),oE,H',⟨Nat.le_refl _⟩,⟨oL⟩⟩
 case round =>
  clear H';obtain ⟨x8_1,rfl,HA,HK1,HB⟩ := hrel;cases gk with
  | zero => exact absurd HA.out (by simp [slices_IndexFunc_93_g62.l0])
  | succ k1 =>
   have H := HA.out;clear HA;simp only [slices_IndexFunc_93_g62.l0] at H;by_cases c3 : x8_1 < (l0.length : Int)
   ·
    rw [if_pos c3] at H;have c3b0 : decide (x8_1 < (l0.length : Int)) = true := decide_eq_true c3;clear c3;by_cases c4 : 0 ≤ x8_1
    ·
     rw [if_pos c4] at H;have c4b0 : decide (0 ≤ x8_1) = true := decide_eq_true c4;clear c4;by_cases c5 : x8_1 < (l0.length : Int)
     ·
      rw [if_pos c5] at H;have c5b0 : decide (x8_1 < (l0.length : Int)) = true := decide_eq_true c5;clear c5;obtain ⟨t102,A60,H⟩ := bE H;have A6 := aS A60;clear A60;by_cases c7 : t102 = true
      ·
       subst c7;replace H := iT H;obtain rfl := Option.some.inj H;have p101 : 0 ≤ (x8_1 : Int) := of_decide_eq_true (by first | (with_reducible assumption) | assumption);have q101 : x8_1 < (l0.length : Int) := of_decide_eq_true (by first | (with_reducible assumption) | assumption);obtain ⟨ad101,e101,hx101_0,hx101_1,hx101_2,hx101_3,hx101_4⟩ := at_T89 HR0.out x8_1 p101 q101;cases e101
       replace hx101_0 := oJ HB hx101_0;replace hx101_1 := oJ HB hx101_1;replace hx101_2 := oJ HB hx101_2;replace hx101_3 := oJ HB hx101_3;replace hx101_4 := oJ HB hx101_4;replace p101 := eq_true p101;replace q101 := eq_true q101;go_wp2_with (first | (go_at_call 62;(with_reducible refine (impl_GoodBus_2.calls ((rd_T89 l0 x8_1).f0) ((rd_T89 l0 x8_1).f1) ((rd_T89 l0 x8_1).f2) ((rd_T89 l0 x8_1).f3) ((rd_T89 l0 x8_1).f4) true _ A6.out).mono ?_);rintro e w8 ⟨rfl,hb⟩;refine mk1 (below_step oL hb) ?_;clear HB;intro HB));go_ret;exact ⟨oE,oL⟩
      ·
       replace c7 := Bool.eq_false_iff.mpr c7;subst c7;replace H := iF H;have H' := aS H;clear H;have p101 : 0 ≤ (x8_1 : Int) := of_decide_eq_true (by first | (with_reducible assumption) | assumption);have q101 : x8_1 < (l0.length : Int) := of_decide_eq_true (by first | (with_reducible assumption) | assumption);obtain ⟨ad101,e101,hx101_0,hx101_1,hx101_2,hx101_3,hx101_4⟩ := at_T89 HR0.out x8_1 p101 q101;cases e101
       replace hx101_0 := oJ HB hx101_0;replace hx101_1 := oJ HB hx101_1;replace hx101_2 := oJ HB hx101_2;replace hx101_3 := oJ HB hx101_3;replace hx101_4 := oJ HB hx101_4;replace p101 := eq_true p101;replace q101 := eq_true q101;go_wp2_with (first | (go_at_call 62;(with_reducible refine (impl_GoodBus_2.calls ((rd_T89 l0 x8_1).f0) ((rd_T89 l0 x8_1).f1) ((rd_T89 l0 x8_1).f2) ((rd_T89 l0 x8_1).f3) ((rd_T89 l0 x8_1).f4) false _ A6.out).mono ?_);rintro e w9 ⟨rfl,hb⟩;refine mk1 (below_step oL hb) ?_;clear HB;intro HB));go_roundg k1;case measure => have := HK1.out;omega
       case rel => exact ⟨(wrap64 (x8_1 + 1)),oE,H',⟨by have := HK1.out;omega⟩,⟨oL⟩⟩
     · rw [if_neg c5] at H;exact absurd H (by simp)
    · rw [if_neg c4] at H;exact absurd H (by simp)
   · rw [if_neg c3] at H;have c3b0 : decide (x8_1 < (l0.length : Int)) = false := decide_eq_false c3;clear c3;obtain rfl := Option.some.inj H;go_wp2;go_ret;exact ⟨oE,oL⟩

/-! ### slices_ContainsFunc_61_g62: function 61 -/
def slices_ContainsFunc_61_g62.f (k : Nat) (l0 : List (S89))  : Option (Bool) := (slices_IndexFunc_93_g62.f k l0).bind fun t101 => (some (decide (t101 ≥ 0)))
theorem slices_ContainsFunc_61_g62.mono : ∀ a0 k,LeO (slices_ContainsFunc_61_g62.f k a0) (slices_ContainsFunc_61_g62.f (k + 1) a0) := by
 intro a0 k
 unfold slices_ContainsFunc_61_g62.f
 repeat' first
   | (with_reducible exact slices_IndexFunc_93_g62.mono _ _)
   | (with_reducible exact LeO.refl _)
   | (with_reducible exact LeO.none _)
   | (with_reducible refine LeO.ite ?_ ?_)
   | (with_reducible refine LeO.bind ?_ (fun _ => ?_))
set_option maxHeartbeats 8000000 in
set_option maxRecDepth 100000 in
theorem slices_ContainsFunc_61_g62.calls (k : Nat) (A0 : Option Addr) (c0 : Nat) (l0 : List (S89))  (r : Bool) (w : World) (hr0 : Kd.C k89 w A0 l0.length l0) (hc0 : l0.length ≤ c0) (h : slices_ContainsFunc_61_g62.f k l0 = some r) :
  Calls Try.prog 61 #[.slice A0 l0.length c0,(.func (.func 62) #[] #[])] w fun e w' => e = .returned (.bool r) ∧ Below w.heap.size w w' := by
 have HR0 := aS hr0;have HC0 := aS hc0;clear hr0 hc0;have HB := aS (Below.refl w.heap.size w);have H : ((slices_IndexFunc_93_g62.f k l0).bind fun t101 => (some (decide (t101 ≥ 0)))) = some r := h;clear h;obtain ⟨t101,A30,H⟩ := bE H;have A3 := aS A30;clear A30;obtain rfl := Option.some.inj H;go_enter Try.func61,Try.ntmps61;go_wp2_with (first | (go_at_call 93;(with_reducible refine (slices_IndexFunc_93_g62.calls k _ _ l0 t101 _ ?side1 ?side2 A3.out).mono ?_);(case side1 => repeat (first | exact HR0.out | (with_reducible refine Kd.C_alloc ?_ _) | (with_reducible refine Kd.C_drewN ?_ _) | (with_reducible refine Kd.C_drew ?_)));(case side2 => exact HC0.out);rintro e w4 ⟨rfl,hb⟩;refine mk1 (below_step oL hb) ?_;clear HB;intro HB));go_ret;exact ⟨oE,oL⟩

/-! ### impl_GoodBus: function 28 -/
def impl_GoodBus.f (k : Nat) (l0_0 : List Int) (l0_1 : List (S89)) : Option (Bool) := if (l0_0.length : Int) = 512 then (if (l0_1.length : Int) ≤ 400 then ((slices_ContainsFunc_59_g60.f k l0_0).bind fun t102 => (if t102 = true then (some false) else ((slices_ContainsFunc_61_g62.f k l0_1).bind fun t103 => (some (!t103))))) else (some false)) else (some false)
theorem impl_GoodBus.mono : ∀ a0 a1 k,LeO (impl_GoodBus.f k a0 a1) (impl_GoodBus.f (k + 1) a0 a1) := by
 intro a0 a1 k
 unfold impl_GoodBus.f
 repeat' first
   | (with_reducible exact slices_ContainsFunc_59_g60.mono _ _)
   | (with_reducible exact slices_ContainsFunc_61_g62.mono _ _)
   | (with_reducible exact LeO.refl _)
   | (with_reducible exact LeO.none _)
   | (with_reducible refine LeO.ite ?_ ?_)
   | (with_reducible refine LeO.bind ?_ (fun _ => ?_))
set_option maxHeartbeats 8000000 in
set_option maxRecDepth 100000 in
theorem impl_GoodBus.calls (k : Nat) (A0_0 : Option Addr) (c0_0 : Nat) (l0_0 : List Int) (A0_1 : Option Addr) (c0_1 : Nat) (l0_1 : List (S89)) (r : Bool) (w : World) (hr0_0 : Kd.C (Kd.int .i64) w A0_0 l0_0.length l0_0) (hc0_0 : l0_0.length ≤ c0_0) (hr0_1 : Kd.C k89 w A0_1 l0_1.length l0_1) (hc0_1 : l0_1.length ≤ c0_1) (h : impl_GoodBus.f k l0_0 l0_1 = some r) :
  Calls Try.prog 28 #[.agg #[.slice A0_0 l0_0.length c0_0,.slice A0_1 l0_1.length c0_1]] w fun e w' => e = .returned (.bool r) ∧ Below w.heap.size w w' := by
 have hu34 := Try.underlying34;have HR0_0 := aS hr0_0;have HC0_0 := aS hc0_0;clear hr0_0 hc0_0;have HR0_1 := aS hr0_1;have HC0_1 := aS hc0_1;clear hr0_1 hc0_1;have HB := aS (Below.refl w.heap.size w);have H : (if (l0_0.length : Int) = 512 then (if (l0_1.length : Int) ≤ 400 then ((slices_ContainsFunc_59_g60.f k l0_0).bind fun t102 => (if t102 = true then (some false) else ((slices_ContainsFunc_61_g62.f k l0_1).bind fun t103 => (some (!t103))))) else (some false)) else (some false)) = some r := h;clear h;by_cases c2 : (l0_0.length : Int) = 512
 ·
  rw [if_pos c2] at H;obtain ⟨c2b0,c2b1⟩ := eT c2;clear c2;by_cases c3 : (l0_1.length : Int) ≤ 400
  ·
   rw [if_pos c3] at H;have c3b0 : decide ((l0_1.length : Int) ≤ 400) = true := decide_eq_true c3;have c3b1 : decide (l0_1.length ≤ 400) = true := decide_eq_true (by omega);clear c3;obtain ⟨t102,A40,H⟩ := bE H;have A4 := aS A40;clear A40;by_cases c5 : t102 = true
   ·
    subst c5;replace H := iT H;obtain rfl := Option.some.inj H;go_enter Try.func28,Try.ntmps28;go_wp2_with (first | ((with_reducible refine gate_dst (N := 1) rfl ?_);(try (refine gate_guard (by rfl) ?_;dsimp only));refine boxE (w := w) oL (cs := #[.slice A0_0 l0_0.length c0_0,.slice A0_1 l0_1.length c0_1]) (t := 34) ?_;clear HB;intro gb101 w6 HB BK101 GW101;have GE101 := GW101;refine zz2 BK101.out ?_;intros) | (go_at_call 59;(with_reducible refine (slices_ContainsFunc_59_g60.calls k _ _ l0_0 true _ ?side1 ?side2 A4.out).mono ?_);(case side1 => exact oC HR0_0.out);(case side2 => exact HC0_0.out);rintro e w' ⟨rfl,⟨nd,rfl⟩⟩));go_ret;exact ⟨oE,oL⟩
   ·
    replace c5 := Bool.eq_false_iff.mpr c5;subst c5;replace H := iF H;obtain ⟨t103,A80,H⟩ := bE H;have A8 := aS A80;clear A80;obtain rfl := Option.some.inj H;go_enter Try.func28,Try.ntmps28;go_wp2_with (first | ((with_reducible refine gate_dst (N := 1) rfl ?_);(try (refine gate_guard (by rfl) ?_;dsimp only));refine boxE (w := w) oL (cs := #[.slice A0_0 l0_0.length c0_0,.slice A0_1 l0_1.length c0_1]) (t := 34) ?_;clear HB;intro gb101 w9 HB BK101 GW101;have GE101 := GW101;refine zz2 BK101.out ?_;intros) | (go_at_call 59;(with_reducible refine (slices_ContainsFunc_59_g60.calls k _ _ l0_0 false _ ?side1 ?side2 A4.out).mono ?_);(case side1 => exact oC HR0_0.out);(case side2 => exact HC0_0.out);rintro e w' ⟨rfl,⟨nd,rfl⟩⟩) | (go_at_call 61;(with_reducible refine (slices_ContainsFunc_61_g62.calls k _ _ l0_1 t103 _ ?side1 ?side2 A8.out).mono ?_);(case side1 => repeat (first | exact (Kd.C_below HR0_1.out oL) | (with_reducible refine Kd.C_alloc ?_ _) | (with_reducible refine Kd.C_drewN ?_ _) | (with_reducible refine Kd.C_drew ?_)));(case side2 => exact HC0_1.out);rintro e w11 ⟨rfl,hb⟩;refine mk2 (blk_below (oB BK101.out) hb) (below_step oL hb) ?_;clear BK101 HB;intro BK101 HB));go_ret;exact ⟨oE,oL⟩
  ·
   rw [if_neg c3] at H;have c3b0 : decide ((l0_1.length : Int) ≤ 400) = false := decide_eq_false c3;have c3b1 : decide (l0_1.length ≤ 400) = false := decide_eq_false (by omega);clear c3;obtain rfl := Option.some.inj H;go_enter Try.func28,Try.ntmps28;go_wp2_with (first | ((with_reducible refine gate_dst (N := 1) rfl ?_);(try (refine gate_guard (by rfl) ?_;dsimp only));refine boxE (w := w) oL (cs := #[.slice A0_0 l0_0.length c0_0,.slice A0_1 l0_1.length c0_1]) (t := 34) ?_;clear HB;intro gb101 w12 HB BK101 GW101;have GE101 := GW101;refine zz2 BK101.out ?_;intros));go_ret;exact ⟨oE,oL⟩
 ·
  rw [if_neg c2] at H;obtain ⟨c2b0,c2b1⟩ := eF c2;obtain rfl := Option.some.inj H;go_enter Try.func28,Try.ntmps28;go_wp2_with (first | ((with_reducible refine gate_dst (N := 1) rfl ?_);(try (refine gate_guard (by rfl) ?_;dsimp only));refine boxE (w := w) oL (cs := #[.slice A0_0 l0_0.length c0_0,.slice A0_1 l0_1.length c0_1]) (t := 34) ?_;clear HB;intro gb101 w14 HB BK101 GW101;have GE101 := GW101;refine zz2 BK101.out ?_;intros));go_ret;exact ⟨oE,oL⟩

/-! ### impl_kindOf: function 123 -/
def impl_kindOf.j0 : Nat → Int → Bool → Option (Int)
 | 0,_,_ => none
 | k + 1,x0,x3 => if x3 = true then (some 1) else ((impl_within.f x0 384 447).bind fun t102 => (if t102 = true then (some 3) else (some 0)))
def impl_kindOf.f (k : Nat) (a0 : Int) : Option (Int) := (impl_within.f a0 448 495).bind fun t101 => (if t101 = true then (impl_kindOf.j0 k a0 true) else (impl_kindOf.j0 k a0 (decide (a0 ≥ 512))))
theorem impl_kindOf.mono_l : ∀ k,(∀ y0 y1,LeO (impl_kindOf.j0 k y0 y1) (impl_kindOf.j0 (k + 1) y0 y1))
 | 0 => fun _ _ r h => by simp [impl_kindOf.j0] at h
 | k + 1 => by
  have ih0 := impl_kindOf.mono_l k
  ·
   intro y0 y1
   unfold impl_kindOf.j0
   repeat' first
   | (with_reducible exact ih0 _ _)
   | (with_reducible exact LeO.refl _)
   | (with_reducible exact LeO.none _)
   | (with_reducible refine LeO.ite ?_ ?_)
   | (with_reducible refine LeO.bind ?_ (fun _ => ?_))
theorem impl_kindOf.mono : ∀ a0 k,LeO (impl_kindOf.f k a0) (impl_kindOf.f (k + 1) a0) := by
 intro a0 k
 have ih0 := impl_kindOf.mono_l k
 unfold impl_kindOf.f
 repeat' first
   | (with_reducible exact ih0 _ _)
   | (with_reducible exact LeO.refl _)
   | (with_reducible exact LeO.none _)
   | (with_reducible refine LeO.ite ?_ ?_)
   | (with_reducible refine LeO.bind ?_ (fun _ => ?_))
set_option maxHeartbeats 8000000 in
set_option maxRecDepth 100000 in
theorem impl_kindOf.calls (k : Nat) (a0 : Int) (r : Int) (w : World) (h : impl_kindOf.f k a0 = some r) :
  Calls Try.prog 123 #[.int .i64 a0] w fun e w' => e = .returned (.int .i64 r) ∧ Drawn0 w w' := by
 have H : ((impl_within.f a0 448 495).bind fun t101 => (if t101 = true then (impl_kindOf.j0 k a0 true) else (impl_kindOf.j0 k a0 (decide (a0 ≥ 512))))) = some r := h;clear h;have HC2 := aS H;clear H;go_enter Try.func123,Try.ntmps123;go_upto_region 1 with (fail);go_cut [3] (fun v3 wc => ∃ (kq : Nat) (x3_1 : Bool),v3 = .bool x3_1 ∧ Aside0 (impl_kindOf.j0 kq a0 x3_1 = some r) ∧ Aside0 (kq ≤ k) ∧ Drawn0 w wc)
 case first =>
  have H := HC2.out;clear HC2;obtain ⟨t101,A30,H⟩ := bE H;have A3 := aS A30;clear A30;by_cases c4 : t101 = true
  ·
   subst c4;replace H := iT H;have H' := aS H;clear H;go_wp2_with (first | ((with_reducible refine gate_callee (f := 29) rfl ?_);refine goesQ (some 5) Try.func29 #[.int .i64 a0,.int .i64 448,.int .i64 495] (impl_within.calls a0 448 495 true _ A3.out) fun nd => ?_));go_meet;case rel => exact ⟨_,(true),oE,H',⟨by first | omega | exact Nat.le_refl _⟩,by repeat (first | exact Drawn0.refl _ | apply Drawn0.step)⟩
  ·
   replace c4 := Bool.eq_false_iff.mpr c4;subst c4;replace H := iF H;have H' := aS H;clear H;go_wp2_with (first | ((with_reducible refine gate_callee (f := 29) rfl ?_);refine goesQ (some 5) Try.func29 #[.int .i64 a0,.int .i64 448,.int .i64 495] (impl_within.calls a0 448 495 false _ A3.out) fun nd => ?_));go_meet;case rel => exact ⟨_,(decide (a0 ≥ 512)),oE,H',⟨by first | omega | exact Nat.le_refl _⟩,by repeat (first | exact Drawn0.refl _ | apply Drawn0.step)⟩
 case rest =>
  clear HC2;obtain ⟨kq,x3_1,rfl,HA,HJ1,⟨mc1,rfl⟩⟩ := hcut;cases kq with
  | zero => exact absurd HA.out (by simp [impl_kindOf.j0])
  | succ kj1 =>
   have H := HA.out;clear HA;simp only [impl_kindOf.j0] at H;by_cases c5 : x3_1 = true;{subst c5;replace H := iT H;obtain rfl := Option.some.inj H;go_wp2;go_ret;exact ⟨by first | rfl | (simp;done) | (simp [*];done),by repeat (first | exact Drawn0.refl _ | apply Drawn0.step)⟩}
   ·
    replace c5 := Bool.eq_false_iff.mpr c5;subst c5;replace H := iF H;obtain ⟨t102,A60,H⟩ := bE H;have A6 := aS A60;clear A60;by_cases c7 : t102 = true
    ·
     subst c7;replace H := iT H;obtain rfl := Option.some.inj H;go_wp2_with (first | ((with_reducible refine gate_callee (f := 29) rfl ?_);refine goesQ (some 12) Try.func29 #[.int .i64 a0,.int .i64 384,.int .i64 447] (impl_within.calls a0 384 447 true _ A6.out) fun nd => ?_));go_ret;exact ⟨by first | rfl | (simp;done) | (simp [*];done),by repeat (first | exact Drawn0.refl _ | apply Drawn0.step)⟩
    ·
     replace c7 := Bool.eq_false_iff.mpr c7;subst c7;replace H := iF H;obtain rfl := Option.some.inj H;go_wp2_with (first | ((with_reducible refine gate_callee (f := 29) rfl ?_);refine goesQ (some 12) Try.func29 #[.int .i64 a0,.int .i64 384,.int .i64 447] (impl_within.calls a0 384 447 false _ A6.out) fun nd => ?_));go_ret;exact ⟨by first | rfl | (simp;done) | (simp [*];done),by repeat (first | exact Drawn0.refl _ | apply Drawn0.step)⟩

/-! ### impl_codeOf: function 96 -/
mutual
def impl_codeOf.j0 : Nat → Int → Int → Int → Bool → Option (Int)
 | 0,_,_,_,_ => none
 | k + 1,x0,x1,x2,x15 => if x15 = true then (some 2) else ((impl_kindOf.f k x2).bind fun t101 => ((impl_kindOf.f k (wrap64 ((wrap64 (x2 + x1)) - 1))).bind fun t102 => (if t101 = 1 then (impl_codeOf.j1 k x0 t101 t102 true) else (impl_codeOf.j1 k x0 t101 t102 (t102 == 1)))))
def impl_codeOf.j1 : Nat → Int → Int → Int → Bool → Option (Int)
 | 0,_,_,_,_ => none
 | k + 1,x0,x7,x8,x23 => if x23 = true then (some 1) else (if x0 = 2 then (if x7 = 3 then (some 3) else (if x8 = 3 then (some 3) else (some 0))) else (some 0))
end
def impl_codeOf.f (k : Nat) (a0 : Int) (a1 : Int) (a2 : Int) : Option (Int) := if a1 = 2 then (impl_codeOf.j0 k a0 a1 a2 ((Int.tmod a2 2) == 1)) else (impl_codeOf.j0 k a0 a1 a2 false)
theorem impl_codeOf.mono_l : ∀ k,(∀ y0 y1 y2 y3,LeO (impl_codeOf.j0 k y0 y1 y2 y3) (impl_codeOf.j0 (k + 1) y0 y1 y2 y3)) ∧ (∀ y0 y1 y2 y3,LeO (impl_codeOf.j1 k y0 y1 y2 y3) (impl_codeOf.j1 (k + 1) y0 y1 y2 y3))
 | 0 => ⟨fun _ _ _ _ r h => by simp [impl_codeOf.j0] at h,fun _ _ _ _ r h => by simp [impl_codeOf.j1] at h⟩
 | k + 1 => by
  obtain ⟨ih0,ih1⟩ := impl_codeOf.mono_l k
  refine ⟨?_,?_⟩
  ·
   intro y0 y1 y2 y3
   unfold impl_codeOf.j0
   repeat' first
   | (with_reducible exact ih0 _ _ _ _)
   | (with_reducible exact ih1 _ _ _ _)
   | (with_reducible exact impl_kindOf.mono _ _)
   | (with_reducible exact LeO.refl _)
   | (with_reducible exact LeO.none _)
   | (with_reducible refine LeO.ite ?_ ?_)
   | (with_reducible refine LeO.bind ?_ (fun _ => ?_))
  ·
   intro y0 y1 y2 y3
   unfold impl_codeOf.j1
   repeat' first
   | (with_reducible exact ih0 _ _ _ _)
   | (with_reducible exact ih1 _ _ _ _)
   | (with_reducible exact impl_kindOf.mono _ _)
   | (with_reducible exact LeO.refl _)
   | (with_reducible exact LeO.none _)
   | (with_reducible refine LeO.ite ?_ ?_)
   | (with_reducible refine LeO.bind ?_ (fun _ => ?_))
theorem impl_codeOf.mono : ∀ a0 a1 a2 k,LeO (impl_codeOf.f k a0 a1 a2) (impl_codeOf.f (k + 1) a0 a1 a2) := by
 intro a0 a1 a2 k
 obtain ⟨ih0,ih1⟩ := impl_codeOf.mono_l k
 unfold impl_codeOf.f
 repeat' first
   | (with_reducible exact ih0 _ _ _ _)
   | (with_reducible exact ih1 _ _ _ _)
   | (with_reducible exact impl_kindOf.mono _ _)
   | (with_reducible exact LeO.refl _)
   | (with_reducible exact LeO.none _)
   | (with_reducible refine LeO.ite ?_ ?_)
   | (with_reducible refine LeO.bind ?_ (fun _ => ?_))
set_option maxHeartbeats 8000000 in
set_option maxRecDepth 100000 in
theorem impl_codeOf.calls (k : Nat) (a0 : Int) (a1 : Int) (a2 : Int) (r : Int) (w : World) (h : impl_codeOf.f k a0 a1 a2 = some r) :
  Calls Try.prog 96 #[.int .i64 a0,.int .i64 a1,.int .i64 a2] w fun e w' => e = .returned (.int .i64 r) ∧ Drawn0 w w' := by
 have H : (if a1 = 2 then (impl_codeOf.j0 k a0 a1 a2 ((Int.tmod a2 2) == 1)) else (impl_codeOf.j0 k a0 a1 a2 false)) = some r := h;clear h;have HC4 := aS H;clear H;go_enter Try.func96,Try.ntmps96;go_upto_region 1 with (fail);go_cut [15] (fun v15 wc => ∃ (kq : Nat) (x15_3 : Bool),v15 = .bool x15_3 ∧ Aside0 (impl_codeOf.j0 kq a0 a1 a2 x15_3 = some r) ∧ Aside0 (kq ≤ k) ∧ Drawn0 w wc)
 case first =>
  have H := HC4.out;clear HC4;by_cases c5 : a1 = 2;{rw [if_pos c5] at H;obtain ⟨c5b0,c5b1⟩ := eT c5;clear c5;(first | rw [c5b0] | (simp only [i64_w,i32_w];rw [c5b0]) | skip);have H' := aS H;clear H;go_wp2;go_meet;case rel => exact ⟨_,(((Int.tmod a2 2) == 1)),oE,H',⟨by first | omega | exact Nat.le_refl _⟩,by repeat (first | exact Drawn0.refl _ | apply Drawn0.step)⟩};{rw [if_neg c5] at H;obtain ⟨c5b0,c5b1⟩ := eF c5;(first | rw [c5b0] | (simp only [i64_w,i32_w];rw [c5b0]) | skip);have H' := aS H;clear H;go_wp2;go_meet;case rel => exact ⟨_,(false),oE,H',⟨by first | omega | exact Nat.le_refl _⟩,by repeat (first | exact Drawn0.refl _ | apply Drawn0.step)⟩}
 case rest =>
  clear HC4;obtain ⟨kq,x15_3,rfl,HA,HJ3,⟨mc3,rfl⟩⟩ := hcut;cases kq with
  | zero => exact absurd HA.out (by simp [impl_codeOf.j0])
  | succ kj3 =>
   have H := HA.out;clear HA;simp only [impl_codeOf.j0] at H;by_cases c6 : x15_3 = true;{subst c6;replace H := iT H;obtain rfl := Option.some.inj H;go_wp2;go_ret;exact ⟨by first | rfl | (simp;done) | (simp [*];done),by repeat (first | exact Drawn0.refl _ | apply Drawn0.step)⟩}
   ·
    replace c6 := Bool.eq_false_iff.mpr c6;subst c6;replace H := iF H;obtain ⟨t101,A70,H⟩ := bE H;have A7 := aS A70;clear A70;obtain ⟨t102,A80,H⟩ := bE H;have A8 := aS A80;clear A80;have HC9 := aS H;clear H;go_upto_region 4 with (first | ((with_reducible refine gate_callee (f := 123) rfl ?_);refine goesQ (some 17) Try.func123 #[.int .i64 a2] (impl_kindOf.calls kj3 a2 t101 _ A7.out) fun nd => ?_) | ((with_reducible refine gate_callee (f := 123) rfl ?_);refine goesQ (some 22) Try.func123 #[.int .i64 (wrap64 ((wrap64 (a2 + a1)) - 1))] (impl_kindOf.calls kj3 (wrap64 ((wrap64 (a2 + a1)) - 1)) t102 _ A8.out) fun nd => ?_));(try simp only [Act.put,List.setIfInBounds_toArray,List.set_cons_zero,List.set_cons_succ]);go_cut [23] (fun v23 wc => ∃ (kq : Nat) (x23_8 : Bool),v23 = .bool x23_8 ∧ Aside0 (impl_codeOf.j1 kq a0 t101 t102 x23_8 = some r) ∧ Aside0 (kq ≤ kj3) ∧ Drawn0 w wc)
    case first =>
     have H := HC9.out;clear HC9;by_cases c10 : t101 = 1;{rw [if_pos c10] at H;obtain ⟨c10b0,c10b1⟩ := eT c10;clear c10;(first | rw [c10b0] | (simp only [i64_w,i32_w];rw [c10b0]) | skip);have H' := aS H;clear H;go_wp2;go_meet;case rel => exact ⟨_,(true),oE,H',⟨by have := HJ3.out;first | omega | exact Nat.le_refl _⟩,by repeat (first | exact Drawn0.refl _ | apply Drawn0.step)⟩};{rw [if_neg c10] at H;obtain ⟨c10b0,c10b1⟩ := eF c10;(first | rw [c10b0] | (simp only [i64_w,i32_w];rw [c10b0]) | skip);have H' := aS H;clear H;go_wp2;go_meet;case rel => exact ⟨_,((t102 == 1)),oE,H',⟨by have := HJ3.out;first | omega | exact Nat.le_refl _⟩,by repeat (first | exact Drawn0.refl _ | apply Drawn0.step)⟩}
    case rest =>
     clear HC9;obtain ⟨kq,x23_8,rfl,HA,HJ8,⟨mc8,rfl⟩⟩ := hcut;cases kq with
     | zero => exact absurd HA.out (by simp [impl_codeOf.j1])
     | succ kj8 =>
      have H := HA.out;clear HA;simp only [impl_codeOf.j1] at H;by_cases c11 : x23_8 = true;{subst c11;replace H := iT H;obtain rfl := Option.some.inj H;go_wp2;go_ret;exact ⟨by first | rfl | (simp;done) | (simp [*];done),by repeat (first | exact Drawn0.refl _ | apply Drawn0.step)⟩}
      ·
       replace c11 := Bool.eq_false_iff.mpr c11;subst c11;replace H := iF H;by_cases c12 : a0 = 2
       ·
        rw [if_pos c12] at H;obtain ⟨c12b0,c12b1⟩ := eT c12;clear c12;by_cases c13 : t101 = 3;{rw [if_pos c13] at H;obtain ⟨c13b0,c13b1⟩ := eT c13;clear c13;obtain rfl := Option.some.inj H;go_wp2;go_ret;exact ⟨by first | rfl | (simp;done) | (simp [*];done),by repeat (first | exact Drawn0.refl _ | apply Drawn0.step)⟩}
        ·
         rw [if_neg c13] at H;obtain ⟨c13b0,c13b1⟩ := eF c13;by_cases c14 : t102 = 3;{rw [if_pos c14] at H;obtain ⟨c14b0,c14b1⟩ := eT c14;clear c14;obtain rfl := Option.some.inj H;go_wp2;go_ret;exact ⟨by first | rfl | (simp;done) | (simp [*];done),by repeat (first | exact Drawn0.refl _ | apply Drawn0.step)⟩};{rw [if_neg c14] at H;obtain ⟨c14b0,c14b1⟩ := eF c14;obtain rfl := Option.some.inj H;go_wp2;go_ret;exact ⟨by first | rfl | (simp;done) | (simp [*];done),by repeat (first | exact Drawn0.refl _ | apply Drawn0.step)⟩}
       · rw [if_neg c12] at H;obtain ⟨c12b0,c12b1⟩ := eF c12;obtain rfl := Option.some.inj H;go_wp2;go_ret;exact ⟨by first | rfl | (simp;done) | (simp [*];done),by repeat (first | exact Drawn0.refl _ | apply Drawn0.step)⟩

/-! ### impl_isThere: function 64 -/
def impl_isThere.f (k : Nat) (a0 : Int) : Option (Bool) := (impl_codeOf.f k 3 2 a0).bind fun t101 => (some (t101 == 0))
theorem impl_isThere.mono : ∀ a0 k,LeO (impl_isThere.f k a0) (impl_isThere.f (k + 1) a0) := by
 intro a0 k
 unfold impl_isThere.f
 repeat' first
   | (with_reducible exact impl_codeOf.mono _ _ _ _)
   | (with_reducible exact LeO.refl _)
   | (with_reducible exact LeO.none _)
   | (with_reducible refine LeO.ite ?_ ?_)
   | (with_reducible refine LeO.bind ?_ (fun _ => ?_))
set_option maxHeartbeats 8000000 in
set_option maxRecDepth 100000 in
theorem impl_isThere.calls (k : Nat) (a0 : Int) (r : Bool) (w : World) (h : impl_isThere.f k a0 = some r) :
  Calls Try.prog 64 #[.int .i64 a0] w fun e w' => e = .returned (.bool r) ∧ Drawn0 w w' := by
 have H : ((impl_codeOf.f k 3 2 a0).bind fun t101 => (some (t101 == 0))) = some r := h;clear h;obtain ⟨t101,A20,H⟩ := bE H;have A2 := aS A20;clear A20;obtain rfl := Option.some.inj H;go_enter Try.func64,Try.ntmps64;go_wp2_with (first | ((with_reducible refine gate_callee (f := 96) rfl ?_);refine goesQ (some 4) Try.func96 #[.int .i64 3,.int .i64 2,.int .i64 a0] (impl_codeOf.calls k 3 2 a0 t101 _ A2.out) fun nd => ?_));go_ret;exact ⟨by first | rfl | (simp;done) | (simp [*];done),by repeat (first | exact Drawn0.refl _ | apply Drawn0.step)⟩

end Go.Proofs.Ytapfngfaiojmhaa.R
