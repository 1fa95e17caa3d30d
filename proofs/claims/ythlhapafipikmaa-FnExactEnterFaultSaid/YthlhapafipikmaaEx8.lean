-- Made by this session's program gprint.py out of the translation. Not trusted: Lean checks it.
import Derived.Test.YthlhapafipikmaaEx0
import Derived.Test.YthlhapafipikmaaEx7
namespace Go.Proofs.Ythlhapafipikmaa.E
open Go.RowKit Go.Proofs.YthlhapafipikmaaW.PrintWords Go.Proofs.YthlhapafipikmaaW.PrintLast Go.Proofs.YthlhapafipikmaaW.PrintMore
attribute [local go_sem] max2_int min2_int max_two min_two max_three min_three max_four min_four   -- for this text's walks alone
set_option linter.unusedVariables false
set_option linter.unusedSimpArgs false

/-! ### spec_GoodRegs: function 54 -/
def spec_GoodRegs.f (k : Nat) (l0_0 : List Int) (l0_1 : List Int) (a0_2 : Int) (a0_3 : Int) (a0_4 : Int) (a0_5 : Int) (a0_6 : Bool) (a0_7 : Bool) : Option (Bool) := (spec_l6Four.f k l0_0).bind fun t102 => (if t102 = true then ((spec_l6Four.f k l0_1).bind fun t103 => (if t103 = true then ((spec_l6Word.f a0_2).bind fun t104 => (if t104 = true then ((spec_l6Word.f a0_3).bind fun t105 => (if t105 = true then ((spec_l1Flags.f a0_4).bind fun t106 => (if t106 = true then ((spec_l1In.f a0_5 0 7).bind fun t107 => (some t107)) else (some false))) else (some false))) else (some false))) else (some false))) else (some false))
theorem spec_GoodRegs.mono : ∀ a0 a1 a2 a3 a4 a5 a6 a7 k,LeO (spec_GoodRegs.f k a0 a1 a2 a3 a4 a5 a6 a7) (spec_GoodRegs.f (k + 1) a0 a1 a2 a3 a4 a5 a6 a7) := by
 intro a0 a1 a2 a3 a4 a5 a6 a7 k
 unfold spec_GoodRegs.f
 with_reducible repeat' first | exact spec_l6Four.mono _ _ | exact LeO.refl _ | exact LeO.none _ | refine LeO.ite ?_ ?_ | refine LeO.bind ?_ (fun _ => ?_)
set_option maxHeartbeats 8000000 in
set_option maxRecDepth 100000 in
theorem spec_GoodRegs.calls (k : Nat) (A0_0 : Option Addr) (c0_0 : Nat) (l0_0 : List Int) (A0_1 : Option Addr) (c0_1 : Nat) (l0_1 : List Int) (a0_2 : Int) (a0_3 : Int) (a0_4 : Int) (a0_5 : Int) (a0_6 : Bool) (a0_7 : Bool) (r : Bool) (w : World) (hr0_0 : Kd.C (Kd.int .i64) w A0_0 l0_0.length l0_0) (hc0_0 : l0_0.length ≤ c0_0) (hr0_1 : Kd.C (Kd.int .i64) w A0_1 l0_1.length l0_1) (hc0_1 : l0_1.length ≤ c0_1) (h : spec_GoodRegs.f k l0_0 l0_1 a0_2 a0_3 a0_4 a0_5 a0_6 a0_7 = some r) :
  Calls Try.prog 54 #[.agg #[.slice A0_0 l0_0.length c0_0,.slice A0_1 l0_1.length c0_1,.int .i64 a0_2,.int .i64 a0_3,.int .i64 a0_4,.int .i64 a0_5,.bool a0_6,.bool a0_7]] w fun e w' => e = .returned (.bool r) ∧ Below w.heap.size w w' := by
 have hu31 := Try.underlying31;have HR0_0 := aS hr0_0;have HC0_0 := aS hc0_0;clear hr0_0 hc0_0;have HR0_1 := aS hr0_1;have HC0_1 := aS hc0_1;clear hr0_1 hc0_1;have HB := aS (Below.refl w.heap.size w);unfold spec_GoodRegs.f at h;have H := h;clear h;obtain ⟨t102,A2,H⟩ := bA_ H;by_cases c3 : t102 = true
 ·
  subst c3;replace H := iT H;obtain ⟨t103,A4,H⟩ := bA_ H;by_cases c5 : t103 = true
  ·
   subst c5;replace H := iT H;obtain ⟨t104,A6,H⟩ := bA_ H;by_cases c7 : t104 = true
   ·
    subst c7;replace H := iT H;obtain ⟨t105,A8,H⟩ := bA_ H;by_cases c9 : t105 = true
    ·
     subst c9;replace H := iT H;obtain ⟨t106,A10,H⟩ := bA_ H;by_cases c11 : t106 = true
     ·
      subst c11;replace H := iT H;obtain ⟨t107,A12,H⟩ := bA_ H;obtain rfl := Option.some.inj H;go_enter Try.func54,Try.ntmps54;go_wp2_with (first | ((with_reducible refine gD 1 rfl ?_);refine bX (w:=w) #[.slice A0_0 l0_0.length c0_0,.slice A0_1 l0_1.length c0_1,.int .i64 a0_2,.int .i64 a0_3,.int .i64 a0_4,.int .i64 a0_5,.bool a0_6,.bool a0_7] 31 ?_;clear HB;intro gb101 w13 HB BK101 GW101;refine zz8 BK101.out ?_;intros) | ((with_reducible refine gC 87 rfl ?_);refine gN Try.func87 #[.slice A0_0 l0_0.length c0_0] ?_;(with_reducible refine (spec_l6Four.calls k _ _ l0_0 true _ ?side1 ?side2 A2.out).mono ?_);(case side1 => exact oC HR0_0.out);(case side2 => exact HC0_0.out);rintro e w' ⟨rfl,⟨nd,rfl⟩⟩;refine ⟨_,rfl,?_⟩) | (go_at_call 87;(with_reducible refine (spec_l6Four.calls k _ _ l0_1 true _ ?side1 ?side2 A4.out).mono ?_);(case side1 => repeat (first | exact (Kd.C_below HR0_1.out oL) | (with_reducible refine Kd.C_alloc ?_ _) | (with_reducible refine Kd.C_drewN ?_ _) | (with_reducible refine Kd.C_drew ?_)));(case side2 => exact HC0_1.out);rintro e w' ⟨rfl,⟨nd,rfl⟩⟩) | (go_at_call 41;(with_reducible refine (spec_l6Word.calls a0_2 true _ A6.out).mono ?_);rintro e w' ⟨rfl,⟨nd,rfl⟩⟩) | (go_at_call 41;(with_reducible refine (spec_l6Word.calls a0_3 true _ A8.out).mono ?_);rintro e w' ⟨rfl,⟨nd,rfl⟩⟩) | (go_at_call 88;(with_reducible refine (spec_l1Flags.calls a0_4 true _ A10.out).mono ?_);rintro e w' ⟨rfl,⟨nd,rfl⟩⟩) | (go_at_call 71;(with_reducible refine (spec_l1In.calls a0_5 0 7 t107 _ A12.out).mono ?_);rintro e w' ⟨rfl,⟨nd,rfl⟩⟩));go_ret;exact ⟨oE,oL⟩
     ·
      replace c11 := Bool.eq_false_iff.mpr c11;subst c11;replace H := iF H;obtain rfl := Option.some.inj H;go_enter Try.func54,Try.ntmps54;go_wp2_with (first | ((with_reducible refine gD 1 rfl ?_);refine bX (w:=w) #[.slice A0_0 l0_0.length c0_0,.slice A0_1 l0_1.length c0_1,.int .i64 a0_2,.int .i64 a0_3,.int .i64 a0_4,.int .i64 a0_5,.bool a0_6,.bool a0_7] 31 ?_;clear HB;intro gb101 w15 HB BK101 GW101;refine zz8 BK101.out ?_;intros) | ((with_reducible refine gC 87 rfl ?_);refine gN Try.func87 #[.slice A0_0 l0_0.length c0_0] ?_;(with_reducible refine (spec_l6Four.calls k _ _ l0_0 true _ ?side1 ?side2 A2.out).mono ?_);(case side1 => exact oC HR0_0.out);(case side2 => exact HC0_0.out);rintro e w' ⟨rfl,⟨nd,rfl⟩⟩;refine ⟨_,rfl,?_⟩) | (go_at_call 87;(with_reducible refine (spec_l6Four.calls k _ _ l0_1 true _ ?side1 ?side2 A4.out).mono ?_);(case side1 => repeat (first | exact (Kd.C_below HR0_1.out oL) | (with_reducible refine Kd.C_alloc ?_ _) | (with_reducible refine Kd.C_drewN ?_ _) | (with_reducible refine Kd.C_drew ?_)));(case side2 => exact HC0_1.out);rintro e w' ⟨rfl,⟨nd,rfl⟩⟩) | (go_at_call 41;(with_reducible refine (spec_l6Word.calls a0_2 true _ A6.out).mono ?_);rintro e w' ⟨rfl,⟨nd,rfl⟩⟩) | (go_at_call 41;(with_reducible refine (spec_l6Word.calls a0_3 true _ A8.out).mono ?_);rintro e w' ⟨rfl,⟨nd,rfl⟩⟩) | (go_at_call 88;(with_reducible refine (spec_l1Flags.calls a0_4 false _ A10.out).mono ?_);rintro e w' ⟨rfl,⟨nd,rfl⟩⟩));go_ret;exact ⟨oE,oL⟩
    ·
     replace c9 := Bool.eq_false_iff.mpr c9;subst c9;replace H := iF H;obtain rfl := Option.some.inj H;go_enter Try.func54,Try.ntmps54;go_wp2_with (first | ((with_reducible refine gD 1 rfl ?_);refine bX (w:=w) #[.slice A0_0 l0_0.length c0_0,.slice A0_1 l0_1.length c0_1,.int .i64 a0_2,.int .i64 a0_3,.int .i64 a0_4,.int .i64 a0_5,.bool a0_6,.bool a0_7] 31 ?_;clear HB;intro gb101 w17 HB BK101 GW101;refine zz8 BK101.out ?_;intros) | ((with_reducible refine gC 87 rfl ?_);refine gN Try.func87 #[.slice A0_0 l0_0.length c0_0] ?_;(with_reducible refine (spec_l6Four.calls k _ _ l0_0 true _ ?side1 ?side2 A2.out).mono ?_);(case side1 => exact oC HR0_0.out);(case side2 => exact HC0_0.out);rintro e w' ⟨rfl,⟨nd,rfl⟩⟩;refine ⟨_,rfl,?_⟩) | (go_at_call 87;(with_reducible refine (spec_l6Four.calls k _ _ l0_1 true _ ?side1 ?side2 A4.out).mono ?_);(case side1 => repeat (first | exact (Kd.C_below HR0_1.out oL) | (with_reducible refine Kd.C_alloc ?_ _) | (with_reducible refine Kd.C_drewN ?_ _) | (with_reducible refine Kd.C_drew ?_)));(case side2 => exact HC0_1.out);rintro e w' ⟨rfl,⟨nd,rfl⟩⟩) | (go_at_call 41;(with_reducible refine (spec_l6Word.calls a0_2 true _ A6.out).mono ?_);rintro e w' ⟨rfl,⟨nd,rfl⟩⟩) | (go_at_call 41;(with_reducible refine (spec_l6Word.calls a0_3 false _ A8.out).mono ?_);rintro e w' ⟨rfl,⟨nd,rfl⟩⟩));go_ret;exact ⟨oE,oL⟩
   ·
    replace c7 := Bool.eq_false_iff.mpr c7;subst c7;replace H := iF H;obtain rfl := Option.some.inj H;go_enter Try.func54,Try.ntmps54;go_wp2_with (first | ((with_reducible refine gD 1 rfl ?_);refine bX (w:=w) #[.slice A0_0 l0_0.length c0_0,.slice A0_1 l0_1.length c0_1,.int .i64 a0_2,.int .i64 a0_3,.int .i64 a0_4,.int .i64 a0_5,.bool a0_6,.bool a0_7] 31 ?_;clear HB;intro gb101 w19 HB BK101 GW101;refine zz8 BK101.out ?_;intros) | ((with_reducible refine gC 87 rfl ?_);refine gN Try.func87 #[.slice A0_0 l0_0.length c0_0] ?_;(with_reducible refine (spec_l6Four.calls k _ _ l0_0 true _ ?side1 ?side2 A2.out).mono ?_);(case side1 => exact oC HR0_0.out);(case side2 => exact HC0_0.out);rintro e w' ⟨rfl,⟨nd,rfl⟩⟩;refine ⟨_,rfl,?_⟩) | (go_at_call 87;(with_reducible refine (spec_l6Four.calls k _ _ l0_1 true _ ?side1 ?side2 A4.out).mono ?_);(case side1 => repeat (first | exact (Kd.C_below HR0_1.out oL) | (with_reducible refine Kd.C_alloc ?_ _) | (with_reducible refine Kd.C_drewN ?_ _) | (with_reducible refine Kd.C_drew ?_)));(case side2 => exact HC0_1.out);rintro e w' ⟨rfl,⟨nd,rfl⟩⟩) | (go_at_call 41;(with_reducible refine (spec_l6Word.calls a0_2 false _ A6.out).mono ?_);rintro e w' ⟨rfl,⟨nd,rfl⟩⟩));go_ret;exact ⟨oE,oL⟩
  ·
   replace c5 := Bool.eq_false_iff.mpr c5;subst c5;replace H := iF H;obtain rfl := Option.some.inj H;go_enter Try.func54,Try.ntmps54;go_wp2_with (first | ((with_reducible refine gD 1 rfl ?_);refine bX (w:=w) #[.slice A0_0 l0_0.length c0_0,.slice A0_1 l0_1.length c0_1,.int .i64 a0_2,.int .i64 a0_3,.int .i64 a0_4,.int .i64 a0_5,.bool a0_6,.bool a0_7] 31 ?_;clear HB;intro gb101 w21 HB BK101 GW101;refine zz8 BK101.out ?_;intros) | ((with_reducible refine gC 87 rfl ?_);refine gN Try.func87 #[.slice A0_0 l0_0.length c0_0] ?_;(with_reducible refine (spec_l6Four.calls k _ _ l0_0 true _ ?side1 ?side2 A2.out).mono ?_);(case side1 => exact oC HR0_0.out);(case side2 => exact HC0_0.out);rintro e w' ⟨rfl,⟨nd,rfl⟩⟩;refine ⟨_,rfl,?_⟩) | (go_at_call 87;(with_reducible refine (spec_l6Four.calls k _ _ l0_1 false _ ?side1 ?side2 A4.out).mono ?_);(case side1 => repeat (first | exact (Kd.C_below HR0_1.out oL) | (with_reducible refine Kd.C_alloc ?_ _) | (with_reducible refine Kd.C_drewN ?_ _) | (with_reducible refine Kd.C_drew ?_)));(case side2 => exact HC0_1.out);rintro e w' ⟨rfl,⟨nd,rfl⟩⟩));go_ret;exact ⟨oE,oL⟩
 ·
  replace c3 := Bool.eq_false_iff.mpr c3;subst c3;replace H := iF H;obtain rfl := Option.some.inj H;go_enter Try.func54,Try.ntmps54;go_wp2_with (first | ((with_reducible refine gD 1 rfl ?_);refine bX (w:=w) #[.slice A0_0 l0_0.length c0_0,.slice A0_1 l0_1.length c0_1,.int .i64 a0_2,.int .i64 a0_3,.int .i64 a0_4,.int .i64 a0_5,.bool a0_6,.bool a0_7] 31 ?_;clear HB;intro gb101 w23 HB BK101 GW101;refine zz8 BK101.out ?_;intros) | ((with_reducible refine gC 87 rfl ?_);refine gN Try.func87 #[.slice A0_0 l0_0.length c0_0] ?_;(with_reducible refine (spec_l6Four.calls k _ _ l0_0 false _ ?side1 ?side2 A2.out).mono ?_);(case side1 => exact oC HR0_0.out);(case side2 => exact HC0_0.out);rintro e w' ⟨rfl,⟨nd,rfl⟩⟩;refine ⟨_,rfl,?_⟩));go_ret;exact ⟨oE,oL⟩

/-! ### spec_l1Size: function 113 -/
def spec_l1Size.f (a0 : Int) : Option (Bool) := if a0 = 1 then (some true) else (some (a0 == 2))
set_option maxHeartbeats 8000000 in
set_option maxRecDepth 100000 in
theorem spec_l1Size.calls (a0 : Int) (r : Bool) (w : World) (h : spec_l1Size.f a0 = some r) :
  Calls Try.prog 113 #[.int .i64 a0] w fun e w' => e = .returned (.bool r) ∧ Drawn0 w w' := by
 unfold spec_l1Size.f at h;have H := h;clear h;by_cases c2 : a0 = 1;{rw [if_pos c2] at H;obtain ⟨c2b0,c2b1⟩ := eT c2;clear c2;obtain rfl := Option.some.inj H;go_enter Try.func113,Try.ntmps113;go_wp2;go_ret;exact ⟨by first | rfl | (simp;done) | (simp [*];done),by repeat (first | exact Drawn0.refl _ | apply Drawn0.step)⟩};{rw [if_neg c2] at H;obtain ⟨c2b0,c2b1⟩ := eF c2;obtain rfl := Option.some.inj H;go_enter Try.func113,Try.ntmps113;go_wp2;go_ret;exact ⟨by first | rfl | (simp;done) | (simp [*];done),by repeat (first | exact Drawn0.refl _ | apply Drawn0.step)⟩}

/-! ### spec_l1Top: function 136 -/
def spec_l1Top.f (a0 : Int) : Option (Int) := if 0 ≤ (IntKind.u64.wrap (wrap64 (8 * a0))) then (some (shl .i64 1 (IntKind.u64.wrap (wrap64 (8 * a0))))) else (none)
set_option maxHeartbeats 8000000 in
set_option maxRecDepth 100000 in
theorem spec_l1Top.calls (a0 : Int) (r : Int) (w : World) (h : spec_l1Top.f a0 = some r) :
  Calls Try.prog 136 #[.int .i64 a0] w fun e w' => e = .returned (.int .i64 r) ∧ Drawn0 w w' := by
 unfold spec_l1Top.f at h;have H := h;clear h;obtain ⟨ji2,hji2⟩ : ∃ j_ : Int,(IntKind.u64.wrap (wrap64 (8 * a0))) = j_ := ⟨_,rfl⟩;replace H : (if 0 ≤ (ji2) then (some (shl .i64 1 (ji2))) else (none)) = some r := by first | (rw [hji2] at H;exact H) | (simp only [hji2] at H ⊢;exact H)
 by_cases c3 : 0 ≤ (ji2)
 ·
  rw [if_pos c3] at H;have c3b0 := eq_true c3;have c3b1 := decide_eq_true c3;clear c3;obtain ⟨ji4,hji4⟩ : ∃ j_ : Int,(shl .i64 1 (ji2)) = j_ := ⟨_,rfl⟩;replace H : (some ji4) = some r := by first | (rw [hji4] at H;exact H) | (simp only [hji4] at H ⊢;exact H)
  have hji4_ : (IntKind.i64.wrap (1 * 2 ^ min (ji2).toNat 64)) = ji4 := hji4;have hji4z : (ji2) ≤ 64 → (IntKind.i64.wrap (1 * 2 ^ (ji2).toNat)) = ji4 := shl_small hji4;have hji4u : (IntKind.i64.wrap (2 ^ min (ji2).toNat 64)) = ji4 := by have h_ := hji4_;rw [Int.one_mul] at h_;exact h_
  have hji4v : (ji2) ≤ 64 → (IntKind.i64.wrap (2 ^ (ji2).toNat)) = ji4 := fun hle_ => by have h_ := hji4z hle_;rw [Int.one_mul] at h_;exact h_
  have hji4y : (wrap64 (1 * 2 ^ min (ji2).toNat 64)) = ji4 := (i64_w _).symm.trans hji4_;have hji4x : (ji2) ≤ 64 → (wrap64 (1 * 2 ^ (ji2).toNat)) = ji4 := fun h_ => (i64_w _).symm.trans (hji4z h_)
  obtain rfl := Option.some.inj H;go_enter Try.func136,Try.ntmps136;go_wp2;go_ret;exact ⟨by first | rfl | (simp;done) | (simp only [← hji2,← hji4] <;> (first | rfl | simp)) | (simp [*];done),by repeat (first | exact Drawn0.refl _ | apply Drawn0.step)⟩
 · rw [if_neg c3] at H;exact absurd H (by simp)

/-! ### spec_l1Value: function 123 -/
def spec_l1Value.f (a0 : Int) (a1 : Int) : Option (Bool) := (spec_l1Size.f a0).bind fun t101 => (if t101 = true then ((spec_l1Top.f a0).bind fun t102 => ((spec_l1In.f a1 0 (wrap64 (t102 - 1))).bind fun t103 => (some t103))) else (some false))
set_option maxHeartbeats 8000000 in
set_option maxRecDepth 100000 in
theorem spec_l1Value.calls (a0 : Int) (a1 : Int) (r : Bool) (w : World) (h : spec_l1Value.f a0 a1 = some r) :
  Calls Try.prog 123 #[.int .i64 a0,.int .i64 a1] w fun e w' => e = .returned (.bool r) ∧ Drawn0 w w' := by
 unfold spec_l1Value.f at h;have H := h;clear h;obtain ⟨t101,A3,H⟩ := bA_ H;by_cases c4 : t101 = true
 ·
  subst c4;replace H := iT H;obtain ⟨t102,A5,H⟩ := bA_ H;obtain ⟨t103,A6,H⟩ := bA_ H;obtain rfl := Option.some.inj H;go_enter Try.func123,Try.ntmps123;go_wp2_with (first | ((with_reducible refine gate_callee (f := 113) rfl ?_);refine goesQ (some 6) Try.func113 #[.int .i64 a0] (spec_l1Size.calls a0 true _ A3.out) fun nd => ?_) | (go_at_call 136;(with_reducible refine (spec_l1Top.calls a0 t102 _ A5.out).mono ?_);rintro e w' ⟨rfl,⟨nd,rfl⟩⟩) | (go_at_call 71;(with_reducible refine (spec_l1In.calls a1 0 (wrap64 (t102 - 1)) t103 _ A6.out).mono ?_);rintro e w' ⟨rfl,⟨nd,rfl⟩⟩));go_ret;exact ⟨by first | rfl | (simp;done) | (simp [*];done),by repeat (first | exact Drawn0.refl _ | apply Drawn0.step)⟩
 ·
  replace c4 := Bool.eq_false_iff.mpr c4;subst c4;replace H := iF H;obtain rfl := Option.some.inj H;go_enter Try.func123,Try.ntmps123;go_wp2_with (first | ((with_reducible refine gate_callee (f := 113) rfl ?_);refine goesQ (some 6) Try.func113 #[.int .i64 a0] (spec_l1Size.calls a0 false _ A3.out) fun nd => ?_));go_ret;exact ⟨by first | rfl | (simp;done) | (simp [*];done),by repeat (first | exact Drawn0.refl _ | apply Drawn0.step)⟩

/-! ### spec_l4Addr: function 124 -/
def spec_l4Addr.f (a0 : Int) : Option (Bool) := (spec_l1In.f a0 0 65535).bind fun t101 => (some t101)
set_option maxHeartbeats 8000000 in
set_option maxRecDepth 100000 in
theorem spec_l4Addr.calls (a0 : Int) (r : Bool) (w : World) (h : spec_l4Addr.f a0 = some r) :
  Calls Try.prog 124 #[.int .i64 a0] w fun e w' => e = .returned (.bool r) ∧ Drawn0 w w' := by
 unfold spec_l4Addr.f at h;have H := h;clear h;obtain ⟨t101,A2,H⟩ := bA_ H;obtain rfl := Option.some.inj H;go_enter Try.func124,Try.ntmps124;go_wp2_with (first | ((with_reducible refine gate_callee (f := 71) rfl ?_);refine goesQ (some 4) Try.func71 #[.int .i64 a0,.int .i64 0,.int .i64 65535] (spec_l1In.calls a0 0 65535 t101 _ A2.out) fun nd => ?_));go_ret;exact ⟨by first | rfl | (simp;done) | (simp [*];done),by repeat (first | exact Drawn0.refl _ | apply Drawn0.step)⟩

/-! ### spec_l4Access: function 89 -/
def spec_l4Access.f (a0_0 : Int) (a0_1 : Int) (a0_2 : Int) (a0_3 : Int) (a0_4 : Int) : Option (Bool) := (spec_l1In.f a0_0 1 3).bind fun t102 => (if t102 = true then ((spec_l1Value.f a0_1 a0_3).bind fun t103 => (if t103 = true then ((spec_l4Addr.f a0_2).bind fun t104 => (if t104 = true then ((spec_l1In.f a0_4 0 3).bind fun t105 => (if t105 = true then (if a0_0 = 3 then (some (a0_4 != 0)) else (some true)) else (some false))) else (some false))) else (some false))) else (some false))
set_option maxHeartbeats 8000000 in
set_option maxRecDepth 100000 in
theorem spec_l4Access.calls (a0_0 : Int) (a0_1 : Int) (a0_2 : Int) (a0_3 : Int) (a0_4 : Int) (r : Bool) (w : World) (h : spec_l4Access.f a0_0 a0_1 a0_2 a0_3 a0_4 = some r) :
  Calls Try.prog 89 #[.agg #[.int .i64 a0_0,.int .i64 a0_1,.int .i64 a0_2,.int .i64 a0_3,.int .i64 a0_4]] w fun e w' => e = .returned (.bool r) ∧ Below w.heap.size w w' := by
 have hu115 := Try.underlying115;have HB := aS (Below.refl w.heap.size w);unfold spec_l4Access.f at h;have H := h;clear h;obtain ⟨t102,A2,H⟩ := bA_ H;by_cases c3 : t102 = true
 ·
  subst c3;replace H := iT H;obtain ⟨t103,A4,H⟩ := bA_ H;by_cases c5 : t103 = true
  ·
   subst c5;replace H := iT H;obtain ⟨t104,A6,H⟩ := bA_ H;by_cases c7 : t104 = true
   ·
    subst c7;replace H := iT H;obtain ⟨t105,A8,H⟩ := bA_ H;by_cases c9 : t105 = true
    ·
     subst c9;replace H := iT H;by_cases c10 : a0_0 = 3
     ·
      rw [if_pos c10] at H;obtain ⟨c10b0,c10b1⟩ := eT c10;clear c10;obtain rfl := Option.some.inj H;go_enter Try.func89,Try.ntmps89;go_wp2_with (first | ((with_reducible refine gD 1 rfl ?_);refine bX (w:=w) #[.int .i64 a0_0,.int .i64 a0_1,.int .i64 a0_2,.int .i64 a0_3,.int .i64 a0_4] 115 ?_;clear HB;intro gb101 w11 HB BK101 GW101;refine zz5 BK101.out ?_;intros) | ((with_reducible refine gate_callee (f := 71) rfl ?_);refine goesQ (some 5) Try.func71 #[.int .i64 a0_0,.int .i64 1,.int .i64 3] (spec_l1In.calls a0_0 1 3 true _ A2.out) fun nd => ?_) | (go_at_call 123;(with_reducible refine (spec_l1Value.calls a0_1 a0_3 true _ A4.out).mono ?_);rintro e w' ⟨rfl,⟨nd,rfl⟩⟩) | (go_at_call 124;(with_reducible refine (spec_l4Addr.calls a0_2 true _ A6.out).mono ?_);rintro e w' ⟨rfl,⟨nd,rfl⟩⟩) | (go_at_call 71;(with_reducible refine (spec_l1In.calls a0_4 0 3 true _ A8.out).mono ?_);rintro e w' ⟨rfl,⟨nd,rfl⟩⟩));go_ret;exact ⟨oE,oL⟩
     ·
      rw [if_neg c10] at H;obtain ⟨c10b0,c10b1⟩ := eF c10;obtain rfl := Option.some.inj H;go_enter Try.func89,Try.ntmps89;go_wp2_with (first | ((with_reducible refine gD 1 rfl ?_);refine bX (w:=w) #[.int .i64 a0_0,.int .i64 a0_1,.int .i64 a0_2,.int .i64 a0_3,.int .i64 a0_4] 115 ?_;clear HB;intro gb101 w13 HB BK101 GW101;refine zz5 BK101.out ?_;intros) | ((with_reducible refine gate_callee (f := 71) rfl ?_);refine goesQ (some 5) Try.func71 #[.int .i64 a0_0,.int .i64 1,.int .i64 3] (spec_l1In.calls a0_0 1 3 true _ A2.out) fun nd => ?_) | (go_at_call 123;(with_reducible refine (spec_l1Value.calls a0_1 a0_3 true _ A4.out).mono ?_);rintro e w' ⟨rfl,⟨nd,rfl⟩⟩) | (go_at_call 124;(with_reducible refine (spec_l4Addr.calls a0_2 true _ A6.out).mono ?_);rintro e w' ⟨rfl,⟨nd,rfl⟩⟩) | (go_at_call 71;(with_reducible refine (spec_l1In.calls a0_4 0 3 true _ A8.out).mono ?_);rintro e w' ⟨rfl,⟨nd,rfl⟩⟩));go_ret;exact ⟨oE,oL⟩
    ·
     replace c9 := Bool.eq_false_iff.mpr c9;subst c9;replace H := iF H;obtain rfl := Option.some.inj H;go_enter Try.func89,Try.ntmps89;go_wp2_with (first | ((with_reducible refine gD 1 rfl ?_);refine bX (w:=w) #[.int .i64 a0_0,.int .i64 a0_1,.int .i64 a0_2,.int .i64 a0_3,.int .i64 a0_4] 115 ?_;clear HB;intro gb101 w15 HB BK101 GW101;refine zz5 BK101.out ?_;intros) | ((with_reducible refine gate_callee (f := 71) rfl ?_);refine goesQ (some 5) Try.func71 #[.int .i64 a0_0,.int .i64 1,.int .i64 3] (spec_l1In.calls a0_0 1 3 true _ A2.out) fun nd => ?_) | (go_at_call 123;(with_reducible refine (spec_l1Value.calls a0_1 a0_3 true _ A4.out).mono ?_);rintro e w' ⟨rfl,⟨nd,rfl⟩⟩) | (go_at_call 124;(with_reducible refine (spec_l4Addr.calls a0_2 true _ A6.out).mono ?_);rintro e w' ⟨rfl,⟨nd,rfl⟩⟩) | (go_at_call 71;(with_reducible refine (spec_l1In.calls a0_4 0 3 false _ A8.out).mono ?_);rintro e w' ⟨rfl,⟨nd,rfl⟩⟩));go_ret;exact ⟨oE,oL⟩
   ·
    replace c7 := Bool.eq_false_iff.mpr c7;subst c7;replace H := iF H;obtain rfl := Option.some.inj H;go_enter Try.func89,Try.ntmps89;go_wp2_with (first | ((with_reducible refine gD 1 rfl ?_);refine bX (w:=w) #[.int .i64 a0_0,.int .i64 a0_1,.int .i64 a0_2,.int .i64 a0_3,.int .i64 a0_4] 115 ?_;clear HB;intro gb101 w17 HB BK101 GW101;refine zz5 BK101.out ?_;intros) | ((with_reducible refine gate_callee (f := 71) rfl ?_);refine goesQ (some 5) Try.func71 #[.int .i64 a0_0,.int .i64 1,.int .i64 3] (spec_l1In.calls a0_0 1 3 true _ A2.out) fun nd => ?_) | (go_at_call 123;(with_reducible refine (spec_l1Value.calls a0_1 a0_3 true _ A4.out).mono ?_);rintro e w' ⟨rfl,⟨nd,rfl⟩⟩) | (go_at_call 124;(with_reducible refine (spec_l4Addr.calls a0_2 false _ A6.out).mono ?_);rintro e w' ⟨rfl,⟨nd,rfl⟩⟩));go_ret;exact ⟨oE,oL⟩
  ·
   replace c5 := Bool.eq_false_iff.mpr c5;subst c5;replace H := iF H;obtain rfl := Option.some.inj H;go_enter Try.func89,Try.ntmps89;go_wp2_with (first | ((with_reducible refine gD 1 rfl ?_);refine bX (w:=w) #[.int .i64 a0_0,.int .i64 a0_1,.int .i64 a0_2,.int .i64 a0_3,.int .i64 a0_4] 115 ?_;clear HB;intro gb101 w19 HB BK101 GW101;refine zz5 BK101.out ?_;intros) | ((with_reducible refine gate_callee (f := 71) rfl ?_);refine goesQ (some 5) Try.func71 #[.int .i64 a0_0,.int .i64 1,.int .i64 3] (spec_l1In.calls a0_0 1 3 true _ A2.out) fun nd => ?_) | (go_at_call 123;(with_reducible refine (spec_l1Value.calls a0_1 a0_3 false _ A4.out).mono ?_);rintro e w' ⟨rfl,⟨nd,rfl⟩⟩));go_ret;exact ⟨oE,oL⟩
 ·
  replace c3 := Bool.eq_false_iff.mpr c3;subst c3;replace H := iF H;obtain rfl := Option.some.inj H;go_enter Try.func89,Try.ntmps89;go_wp2_with (first | ((with_reducible refine gD 1 rfl ?_);refine bX (w:=w) #[.int .i64 a0_0,.int .i64 a0_1,.int .i64 a0_2,.int .i64 a0_3,.int .i64 a0_4] 115 ?_;clear HB;intro gb101 w21 HB BK101 GW101;refine zz5 BK101.out ?_;intros) | ((with_reducible refine gate_callee (f := 71) rfl ?_);refine goesQ (some 5) Try.func71 #[.int .i64 a0_0,.int .i64 1,.int .i64 3] (spec_l1In.calls a0_0 1 3 false _ A2.out) fun nd => ?_));go_ret;exact ⟨oE,oL⟩

/-! ### spec_l4Bytes: function 90 -/
def spec_l4Bytes.l0 : Nat → List Int → Int → Int → Option (Bool)
 | 0,_,_,_ => none
 | k + 1,x5,x6,x7 => if x7 < x6 then (if 0 ≤ x7 then (if x7 < (x5.length : Int) then ((spec_l1In.f (rd x5 x7) 0 255).bind fun t102 => (if t102 = true then (spec_l4Bytes.l0 k x5 x6 (wrap64 (x7 + 1))) else (some false))) else (none)) else (none)) else (some true)
def spec_l4Bytes.f (k : Nat) (l0 : List Int) : Option (Bool) := spec_l4Bytes.l0 k l0 (l0.length : Int) 0
theorem spec_l4Bytes.mono_l : ∀ k,(∀ y0 y1 y2,LeO (spec_l4Bytes.l0 k y0 y1 y2) (spec_l4Bytes.l0 (k + 1) y0 y1 y2))
 | 0 => fun _ _ _ r h => by simp [spec_l4Bytes.l0] at h
 | k + 1 => by
  have ih0 := spec_l4Bytes.mono_l k
  ·
   intro y0 y1 y2
   unfold spec_l4Bytes.l0
   with_reducible repeat' first | exact ih0 _ _ _ | exact LeO.refl _ | exact LeO.none _ | refine LeO.ite ?_ ?_ | refine LeO.bind ?_ (fun _ => ?_)
theorem spec_l4Bytes.mono : ∀ a0 k,LeO (spec_l4Bytes.f k a0) (spec_l4Bytes.f (k + 1) a0) := by
 intro a0 k
 have ih0 := spec_l4Bytes.mono_l k
 unfold spec_l4Bytes.f
 with_reducible repeat' first | exact ih0 _ _ _ | exact LeO.refl _ | exact LeO.none _ | refine LeO.ite ?_ ?_ | refine LeO.bind ?_ (fun _ => ?_)
set_option maxHeartbeats 8000000 in
set_option maxRecDepth 100000 in
theorem spec_l4Bytes.calls (k : Nat) (A0 : Option Addr) (c0 : Nat) (l0 : List Int) (r : Bool) (w : World) (hr0 : Kd.C (Kd.int .i64) w A0 l0.length l0) (hc0 : l0.length ≤ c0) (h : spec_l4Bytes.f k l0 = some r) :
  Calls Try.prog 90 #[.slice A0 l0.length c0] w fun e w' => e = .returned (.bool r) ∧ Drawn0 w w' := by
 have HR0 := aS hr0;have HC0 := aS hc0;clear hr0 hc0;unfold spec_l4Bytes.f at h;have H := h;clear h;have H' := aS H;clear H;go_enter Try.func90,Try.ntmps90;go_wp2;go_loopg [7] k (fun kq v7 w' => ∃ (x7_1 : Int),v7 = .int .i64 x7_1 ∧ Aside0 (spec_l4Bytes.l0 kq l0 (l0.length : Int) x7_1 = some r) ∧ Aside0 (kq ≤ k) ∧ Drawn0 w w')
 case atStart => exact ⟨(0),oE,H',⟨Nat.le_refl _⟩,by repeat (first | exact Drawn0.refl _ | apply Drawn0.step)⟩
 case round =>
  clear H';obtain ⟨x7_1,rfl,HA,HK1,⟨m1,rfl⟩⟩ := hrel;cases gk with
  | zero => exact absurd HA.out (by simp [spec_l4Bytes.l0])
  | succ k1 =>
   have H := HA.out;clear HA;simp only [spec_l4Bytes.l0] at H;by_cases c2 : x7_1 < (l0.length : Int)
   ·
    rw [if_pos c2] at H;have c2b0 := decide_eq_true c2;clear c2;by_cases c3 : 0 ≤ x7_1
    ·
     rw [if_pos c3] at H;have c3b0 := decide_eq_true c3;clear c3;by_cases c4 : x7_1 < (l0.length : Int)
     ·
      rw [if_pos c4] at H;have c4b0 := decide_eq_true c4;clear c4;obtain ⟨t102,A5,H⟩ := bA_ H;by_cases c6 : t102 = true
      ·
       subst c6;replace H := iT H;have H' := aS H;clear H;have p101 : 0 ≤ (x7_1 : Int) := oZ;have q101 : x7_1 < (l0.length : Int) := oZ;obtain ⟨ad101,e101,hx101_0⟩ := Kd.at_int HR0.out x7_1 p101 q101;cases e101
       replace p101 := eq_true p101;replace q101 := eq_true q101;go_wp2_with (first | ((with_reducible refine gate_callee (f := 71) rfl ?_);refine goesQ (some 12) Try.func71 #[.int .i64 (rd l0 x7_1),.int .i64 0,.int .i64 255] (spec_l1In.calls (rd l0 x7_1) 0 255 true _ A5.out) fun nd => ?_));go_roundg k1;case measure => have := HK1.out;omega
       case rel => exact ⟨(wrap64 (x7_1 + 1)),oE,H',⟨by have := HK1.out;omega⟩,by repeat (first | exact Drawn0.refl _ | apply Drawn0.step)⟩
      ·
       replace c6 := Bool.eq_false_iff.mpr c6;subst c6;replace H := iF H;obtain rfl := Option.some.inj H;have p101 : 0 ≤ (x7_1 : Int) := oZ;have q101 : x7_1 < (l0.length : Int) := oZ;obtain ⟨ad101,e101,hx101_0⟩ := Kd.at_int HR0.out x7_1 p101 q101;cases e101
       replace p101 := eq_true p101;replace q101 := eq_true q101;go_wp2_with (first | ((with_reducible refine gate_callee (f := 71) rfl ?_);refine goesQ (some 12) Try.func71 #[.int .i64 (rd l0 x7_1),.int .i64 0,.int .i64 255] (spec_l1In.calls (rd l0 x7_1) 0 255 false _ A5.out) fun nd => ?_));go_ret;exact ⟨by first | rfl | (simp;done) | (simp [*];done),by repeat (first | exact Drawn0.refl _ | apply Drawn0.step)⟩
     · rw [if_neg c4] at H;exact absurd H (by simp)
    · rw [if_neg c3] at H;exact absurd H (by simp)
   · rw [if_neg c2] at H;have c2b0 := decide_eq_false c2;clear c2;obtain rfl := Option.some.inj H;go_wp2;go_ret;exact ⟨by first | rfl | (simp;done) | (simp [*];done),by repeat (first | exact Drawn0.refl _ | apply Drawn0.step)⟩

/-! ### spec_GoodBus: function 55 -/
def spec_GoodBus.l0 : Nat → List (S115) → Int → Int → List Int → List (S115) → Option (Bool)
 | 0,_,_,_,_,_ => none
 | k + 1,x6,x7,x8,x102000,x102001 => if x8 < x7 then (if 0 ≤ x8 then (if x8 < (x6.length : Int) then ((spec_l4Access.f ((rd_T115 x6 x8).f0) ((rd_T115 x6 x8).f1) ((rd_T115 x6 x8).f2) ((rd_T115 x6 x8).f3) ((rd_T115 x6 x8).f4)).bind fun t104 => (if t104 = true then (spec_GoodBus.l0 k x6 x7 (wrap64 (x8 + 1)) x102000 x102001) else (some false))) else (none)) else (none)) else (if (x102000.length : Int) = 512 then ((spec_l4Bytes.f k x102000).bind fun t105 => (if t105 = true then (some (decide ((x102001.length : Int) ≤ 400))) else (some false))) else (some false))
def spec_GoodBus.f (k : Nat) (l0_0 : List Int) (l0_1 : List (S115)) : Option (Bool) := spec_GoodBus.l0 k l0_1 (l0_1.length : Int) 0 l0_0 l0_1
theorem spec_GoodBus.mono_l : ∀ k,(∀ y0 y1 y2 y3 y4,LeO (spec_GoodBus.l0 k y0 y1 y2 y3 y4) (spec_GoodBus.l0 (k + 1) y0 y1 y2 y3 y4))
 | 0 => fun _ _ _ _ _ r h => by simp [spec_GoodBus.l0] at h
 | k + 1 => by
  have ih0 := spec_GoodBus.mono_l k
  ·
   intro y0 y1 y2 y3 y4
   unfold spec_GoodBus.l0
   with_reducible repeat' first | exact ih0 _ _ _ _ _ | exact spec_l4Bytes.mono _ _ | exact LeO.refl _ | exact LeO.none _ | refine LeO.ite ?_ ?_ | refine LeO.bind ?_ (fun _ => ?_)
theorem spec_GoodBus.mono : ∀ a0 a1 k,LeO (spec_GoodBus.f k a0 a1) (spec_GoodBus.f (k + 1) a0 a1) := by
 intro a0 a1 k
 have ih0 := spec_GoodBus.mono_l k
 unfold spec_GoodBus.f
 with_reducible repeat' first | exact ih0 _ _ _ _ _ | exact spec_l4Bytes.mono _ _ | exact LeO.refl _ | exact LeO.none _ | refine LeO.ite ?_ ?_ | refine LeO.bind ?_ (fun _ => ?_)
set_option maxHeartbeats 8000000 in
set_option maxRecDepth 100000 in
theorem spec_GoodBus.calls (k : Nat) (A0_0 : Option Addr) (c0_0 : Nat) (l0_0 : List Int) (A0_1 : Option Addr) (c0_1 : Nat) (l0_1 : List (S115)) (r : Bool) (w : World) (hr0_0 : Kd.C (Kd.int .i64) w A0_0 l0_0.length l0_0) (hc0_0 : l0_0.length ≤ c0_0) (hr0_1 : Kd.C k115 w A0_1 l0_1.length l0_1) (hc0_1 : l0_1.length ≤ c0_1) (h : spec_GoodBus.f k l0_0 l0_1 = some r) :
  Calls Try.prog 55 #[.agg #[.slice A0_0 l0_0.length c0_0,.slice A0_1 l0_1.length c0_1]] w fun e w' => e = .returned (.bool r) ∧ Below w.heap.size w w' := by
 have hu34 := Try.underlying34;have hu115 := Try.underlying115;have HR0_0 := aS hr0_0;have HC0_0 := aS hc0_0;clear hr0_0 hc0_0;have HR0_1 := aS hr0_1;have HC0_1 := aS hc0_1;clear hr0_1 hc0_1;have HB := aS (Below.refl w.heap.size w);unfold spec_GoodBus.f at h;have H := h;clear h;have H' := aS H;clear H;go_enter Try.func55,Try.ntmps55;go_wp2_with (first | ((with_reducible refine gate_dst (N := 1) rfl ?_);(try (refine gate_guard (by rfl) ?_;dsimp only));refine boxE (w := w) oL (cs := #[.slice A0_0 l0_0.length c0_0,.slice A0_1 l0_1.length c0_1]) (t := 34) ?_;clear HB;intro gb101 w2 HB BK101 GW101;refine zz2 BK101.out ?_;intros));go_loopg [8] k (fun kq v8 w' => ∃ (x8_1 : Int),v8 = .int .i64 x8_1 ∧ Aside0 (spec_GoodBus.l0 kq l0_1 (l0_1.length : Int) x8_1 l0_0 l0_1 = some r) ∧ Aside0 (kq ≤ k) ∧ Aside0 (w'.heap[gb101]? = some (.cells #[(.slice A0_0 l0_0.length c0_0),(.slice A0_1 l0_1.length c0_1)] 34 (0,0))) ∧ Aside0 (Below w.heap.size w w'))
 case atStart => exact ⟨(0),oE,H',⟨Nat.le_refl _⟩,⟨oB BK101.out⟩,⟨oL⟩⟩
 case round =>
  clear H';obtain ⟨x8_1,rfl,HA,HK1,BK101,HB⟩ := hrel;cases gk with
  | zero => exact absurd HA.out (by simp [spec_GoodBus.l0])
  | succ k1 =>
   have H := HA.out;clear HA;simp only [spec_GoodBus.l0] at H;by_cases c4 : x8_1 < (l0_1.length : Int)
   ·
    rw [if_pos c4] at H;have c4b0 := decide_eq_true c4;clear c4;by_cases c5 : 0 ≤ x8_1
    ·
     rw [if_pos c5] at H;have c5b0 := decide_eq_true c5;clear c5;by_cases c6 : x8_1 < (l0_1.length : Int)
     ·
      rw [if_pos c6] at H;have c6b0 := decide_eq_true c6;clear c6;obtain ⟨t104,A7,H⟩ := bA_ H;by_cases c8 : t104 = true
      ·
       subst c8;replace H := iT H;have H' := aS H;clear H;have p102 : 0 ≤ (x8_1 : Int) := oZ;have q102 : x8_1 < (l0_1.length : Int) := oZ;obtain ⟨ad102,e102,hx102_0,hx102_1,hx102_2,hx102_3,hx102_4⟩ := at_T115 HR0_1.out x8_1 p102 q102;cases e102
       replace hx102_0 := oJ HB hx102_0;replace hx102_1 := oJ HB hx102_1;replace hx102_2 := oJ HB hx102_2;replace hx102_3 := oJ HB hx102_3;replace hx102_4 := oJ HB hx102_4;replace p102 := eq_true p102;replace q102 := eq_true q102;go_wp2_with (first | ((with_reducible refine gate_dst (N := 4) rfl ?_);(try (refine gate_guard (by rfl) ?_;dsimp only));refine box_event ?hg (N := 4) ?hd (cs := #[.int .i64 0,.int .i64 0,.int .i64 0,.int .i64 0,.int .i64 0]) (t := 115) ?hr ?_;(case hd => rfl);(case hg => rfl);(case hr => first | (go_simp;done) | (go_simp;rfl));intro gb103 hg w9 hbox hb;refine mk6 (xB BK101 hb) (xL hb) (hbox) (xG hg HB) (xN hg BK101) (xM hg BK101) ?_;clear BK101 HB;intro BK101 HB BK103 GW103 NB101_103 NB103_101;clear hb hbox hg;have hnb10 := NB103_101.out;have hnc10 := NB101_103.out;refine zz5 BK103.out ?_;intros) | ((with_reducible refine gC 89 rfl ?_);refine gN Try.func89 #[.agg #[.int .i64 ((rd_T115 l0_1 x8_1).f0),.int .i64 ((rd_T115 l0_1 x8_1).f1),.int .i64 ((rd_T115 l0_1 x8_1).f2),.int .i64 ((rd_T115 l0_1 x8_1).f3),.int .i64 ((rd_T115 l0_1 x8_1).f4)]] ?_;(with_reducible refine (spec_l4Access.calls ((rd_T115 l0_1 x8_1).f0) ((rd_T115 l0_1 x8_1).f1) ((rd_T115 l0_1 x8_1).f2) ((rd_T115 l0_1 x8_1).f3) ((rd_T115 l0_1 x8_1).f4) true _ A7.out).mono ?_);rintro e w12 ⟨rfl,hb⟩;refine ⟨_,rfl,?_⟩;refine mk3 (blk_below (oG BK101.out NB101_103.out) hb) (blk_below (g := gb103) (o := .cells #[.int .i64 ((rd_T115 l0_1 x8_1).f0),.int .i64 ((rd_T115 l0_1 x8_1).f1),.int .i64 ((rd_T115 l0_1 x8_1).f2),.int .i64 ((rd_T115 l0_1 x8_1).f3),.int .i64 ((rd_T115 l0_1 x8_1).f4)] 115 (0,0)) (oP BK103.out) hb) (xL hb) ?_;clear BK101 BK103 HB;intro BK101 BK103 HB));go_roundg k1;case measure => have := HK1.out;omega
       case rel => exact ⟨(wrap64 (x8_1 + 1)),oE,H',⟨by have := HK1.out;omega⟩,⟨oB BK101.out⟩,⟨oL⟩⟩
      ·
       replace c8 := Bool.eq_false_iff.mpr c8;subst c8;replace H := iF H;obtain rfl := Option.some.inj H;have p102 : 0 ≤ (x8_1 : Int) := oZ;have q102 : x8_1 < (l0_1.length : Int) := oZ;obtain ⟨ad102,e102,hx102_0,hx102_1,hx102_2,hx102_3,hx102_4⟩ := at_T115 HR0_1.out x8_1 p102 q102;cases e102
       replace hx102_0 := oJ HB hx102_0;replace hx102_1 := oJ HB hx102_1;replace hx102_2 := oJ HB hx102_2;replace hx102_3 := oJ HB hx102_3;replace hx102_4 := oJ HB hx102_4;replace p102 := eq_true p102;replace q102 := eq_true q102;go_wp2_with (first | ((with_reducible refine gate_dst (N := 4) rfl ?_);(try (refine gate_guard (by rfl) ?_;dsimp only));refine box_event ?hg (N := 4) ?hd (cs := #[.int .i64 0,.int .i64 0,.int .i64 0,.int .i64 0,.int .i64 0]) (t := 115) ?hr ?_;(case hd => rfl);(case hg => rfl);(case hr => first | (go_simp;done) | (go_simp;rfl));intro gb103 hg w13 hbox hb;refine mk6 (xB BK101 hb) (xL hb) (hbox) (xG hg HB) (xN hg BK101) (xM hg BK101) ?_;clear BK101 HB;intro BK101 HB BK103 GW103 NB101_103 NB103_101;clear hb hbox hg;have hnb14 := NB103_101.out;have hnc14 := NB101_103.out;refine zz5 BK103.out ?_;intros) | ((with_reducible refine gC 89 rfl ?_);refine gN Try.func89 #[.agg #[.int .i64 ((rd_T115 l0_1 x8_1).f0),.int .i64 ((rd_T115 l0_1 x8_1).f1),.int .i64 ((rd_T115 l0_1 x8_1).f2),.int .i64 ((rd_T115 l0_1 x8_1).f3),.int .i64 ((rd_T115 l0_1 x8_1).f4)]] ?_;(with_reducible refine (spec_l4Access.calls ((rd_T115 l0_1 x8_1).f0) ((rd_T115 l0_1 x8_1).f1) ((rd_T115 l0_1 x8_1).f2) ((rd_T115 l0_1 x8_1).f3) ((rd_T115 l0_1 x8_1).f4) false _ A7.out).mono ?_);rintro e w16 ⟨rfl,hb⟩;refine ⟨_,rfl,?_⟩;refine mk3 (blk_below (oG BK101.out NB101_103.out) hb) (blk_below (g := gb103) (o := .cells #[.int .i64 ((rd_T115 l0_1 x8_1).f0),.int .i64 ((rd_T115 l0_1 x8_1).f1),.int .i64 ((rd_T115 l0_1 x8_1).f2),.int .i64 ((rd_T115 l0_1 x8_1).f3),.int .i64 ((rd_T115 l0_1 x8_1).f4)] 115 (0,0)) (oP BK103.out) hb) (xL hb) ?_;clear BK101 BK103 HB;intro BK101 BK103 HB));go_ret;exact ⟨oE,oL⟩
     · rw [if_neg c6] at H;exact absurd H (by simp)
    · rw [if_neg c5] at H;exact absurd H (by simp)
   ·
    rw [if_neg c4] at H;have c4b0 := decide_eq_false c4;clear c4;by_cases c17 : (l0_0.length : Int) = 512
    ·
     rw [if_pos c17] at H;obtain ⟨c17b0,c17b1⟩ := eT c17;clear c17;obtain ⟨t105,A18,H⟩ := bA_ H;by_cases c19 : t105 = true
     ·
      subst c19;replace H := iT H;obtain rfl := Option.some.inj H;refine zz2 BK101.out ?_;intros;go_wp2_with (first | (go_at_call 90;(with_reducible refine (spec_l4Bytes.calls k1 _ _ l0_0 true _ ?side1 ?side2 A18.out).mono ?_);(case side1 => exact oC HR0_0.out);(case side2 => exact HC0_0.out);rintro e w' ⟨rfl,⟨nd,rfl⟩⟩));go_ret;exact ⟨oE,oL⟩
     ·
      replace c19 := Bool.eq_false_iff.mpr c19;subst c19;replace H := iF H;obtain rfl := Option.some.inj H;refine zz2 BK101.out ?_;intros;go_wp2_with (first | (go_at_call 90;(with_reducible refine (spec_l4Bytes.calls k1 _ _ l0_0 false _ ?side1 ?side2 A18.out).mono ?_);(case side1 => exact oC HR0_0.out);(case side2 => exact HC0_0.out);rintro e w' ⟨rfl,⟨nd,rfl⟩⟩));go_ret;exact ⟨oE,oL⟩
    · rw [if_neg c17] at H;obtain ⟨c17b0,c17b1⟩ := eF c17;obtain rfl := Option.some.inj H;refine zz2 BK101.out ?_;intros;go_wp2;go_ret;exact ⟨oE,oL⟩

end Go.Proofs.Ythlhapafipikmaa.E
