-- Made by this session's program gprint.py out of the translation. Not trusted: Lean checks it.
import Derived.Test.YthlhapafipikmaaBx0
import Derived.Test.YthlhapafipikmaaBx11
namespace Go.Proofs.Ythlhapafipikmaa.B
open Go.RowKit Go.Proofs.YthlhapafipikmaaW.PrintWords Go.Proofs.YthlhapafipikmaaW.PrintLast Go.Proofs.YthlhapafipikmaaW.PrintMore
attribute [local go_sem] max2_int min2_int max_two min_two max_three min_three max_four min_four   -- for this text's walks alone
set_option linter.unusedVariables false
set_option linter.unusedSimpArgs false

/-! ### impl_GoodBus_2: function 100 -/
def impl_GoodBus_2.f (a0_0 : Int) (a0_1 : Int) (a0_2 : Int) (a0_3 : Int) (a0_4 : Int) : Option (Bool) := (impl_isAccess.f a0_0 a0_1 a0_2 a0_3 a0_4).bind fun t102 => (some (!t102))
set_option maxHeartbeats 8000000 in
set_option maxRecDepth 100000 in
theorem impl_GoodBus_2.calls (a0_0 : Int) (a0_1 : Int) (a0_2 : Int) (a0_3 : Int) (a0_4 : Int) (r : Bool) (w : World) (h : impl_GoodBus_2.f a0_0 a0_1 a0_2 a0_3 a0_4 = some r) :
  Calls Try.prog 100 #[.agg #[.int .i64 a0_0,.int .i64 a0_1,.int .i64 a0_2,.int .i64 a0_3,.int .i64 a0_4]] w fun e w' => e = .returned (.bool r) ∧ Below w.heap.size w w' := by
 have hu115 := Try.underlying115;have HB := aS (Below.refl w.heap.size w);unfold impl_GoodBus_2.f at h;have H := h;clear h;obtain ⟨t102,A2,H⟩ := bA_ H;obtain rfl := Option.some.inj H;go_enter Try.func100,Try.ntmps100;go_wp2_with (first | ((with_reducible refine gD 1 rfl ?_);refine bX (w:=w) #[.int .i64 a0_0,.int .i64 a0_1,.int .i64 a0_2,.int .i64 a0_3,.int .i64 a0_4] 115 ?_;clear HB;intro gb101 w3 HB BK101 GW101;refine zz5 BK101.out ?_;intros) | ((with_reducible refine gC 101 rfl ?_);refine gN Try.func101 #[.agg #[.int .i64 a0_0,.int .i64 a0_1,.int .i64 a0_2,.int .i64 a0_3,.int .i64 a0_4]] ?_;(with_reducible refine (impl_isAccess.calls a0_0 a0_1 a0_2 a0_3 a0_4 t102 _ A2.out).mono ?_);rintro e w5 ⟨rfl,hb⟩;refine ⟨_,rfl,?_⟩;refine mk2 (xB BK101 hb) (xL hb) ?_;clear BK101 HB;intro BK101 HB));go_ret;exact ⟨oE,oL⟩

/-! ### slices_IndexFunc_127_g98: function 127 -/
def slices_IndexFunc_127_g98.l0 : Nat → List Int → Int → Int → Option (Int)
 | 0,_,_,_ => none
 | k + 1,x0,x7,x8 => if x8 < x7 then (if 0 ≤ x8 then (if x8 < (x0.length : Int) then ((impl_GoodBus_1.f (rd x0 x8)).bind fun t102 => (if t102 = true then (some x8) else (slices_IndexFunc_127_g98.l0 k x0 x7 (wrap64 (x8 + 1))))) else (none)) else (none)) else (some (-1))
def slices_IndexFunc_127_g98.f (k : Nat) (l0 : List Int)  : Option (Int) := slices_IndexFunc_127_g98.l0 k l0 (l0.length : Int) 0
theorem slices_IndexFunc_127_g98.mono_l : ∀ k,(∀ y0 y1 y2,LeO (slices_IndexFunc_127_g98.l0 k y0 y1 y2) (slices_IndexFunc_127_g98.l0 (k + 1) y0 y1 y2))
 | 0 => fun _ _ _ r h => by simp [slices_IndexFunc_127_g98.l0] at h
 | k + 1 => by
  have ih0 := slices_IndexFunc_127_g98.mono_l k
  ·
   intro y0 y1 y2
   unfold slices_IndexFunc_127_g98.l0
   with_reducible repeat' first | exact ih0 _ _ _ | exact LeO.refl _ | exact LeO.none _ | refine LeO.ite ?_ ?_ | refine LeO.bind ?_ (fun _ => ?_)
theorem slices_IndexFunc_127_g98.mono : ∀ a0 k,LeO (slices_IndexFunc_127_g98.f k a0) (slices_IndexFunc_127_g98.f (k + 1) a0) := by
 intro a0 k
 have ih0 := slices_IndexFunc_127_g98.mono_l k
 unfold slices_IndexFunc_127_g98.f
 with_reducible repeat' first | exact ih0 _ _ _ | exact LeO.refl _ | exact LeO.none _ | refine LeO.ite ?_ ?_ | refine LeO.bind ?_ (fun _ => ?_)
set_option maxHeartbeats 8000000 in
set_option maxRecDepth 100000 in
theorem slices_IndexFunc_127_g98.calls (k : Nat) (A0 : Option Addr) (c0 : Nat) (l0 : List Int)  (r : Int) (w : World) (hr0 : Kd.C (Kd.int .i64) w A0 l0.length l0) (hc0 : l0.length ≤ c0) (h : slices_IndexFunc_127_g98.f k l0 = some r) :
  Calls Try.prog 127 #[.slice A0 l0.length c0,(.func (.func 98) #[] #[])] w fun e w' => e = .returned (.int .i64 r) ∧ Drawn0 w w' := by
 have HR0 := aS hr0;have HC0 := aS hc0;clear hr0 hc0;unfold slices_IndexFunc_127_g98.f at h;have H := h;clear h;have H' := aS H;clear H;go_enter Try.func127,Try.ntmps127;go_wp2;go_loopg [8] k (fun kq v8 w' => ∃ (x8_1 : Int),v8 = .int .i64 x8_1 ∧ Aside0 (slices_IndexFunc_127_g98.l0 kq l0 (l0.length : Int) x8_1 = some r) ∧ Aside0 (kq ≤ k) ∧ Drawn0 w w')
 case atStart => exact ⟨(0),oE,H',⟨Nat.le_refl _⟩,by repeat (first | exact Drawn0.refl _ | apply Drawn0.step)⟩
 case round =>
  clear H';obtain ⟨x8_1,rfl,HA,HK1,⟨m1,rfl⟩⟩ := hrel;cases gk with
  | zero => exact absurd HA.out (by simp [slices_IndexFunc_127_g98.l0])
  | succ k1 =>
   have H := HA.out;clear HA;simp only [slices_IndexFunc_127_g98.l0] at H;by_cases c3 : x8_1 < (l0.length : Int)
   ·
    rw [if_pos c3] at H;have c3b0 := decide_eq_true c3;clear c3;by_cases c4 : 0 ≤ x8_1
    ·
     rw [if_pos c4] at H;have c4b0 := decide_eq_true c4;clear c4;by_cases c5 : x8_1 < (l0.length : Int)
     ·
      rw [if_pos c5] at H;have c5b0 := decide_eq_true c5;clear c5;obtain ⟨t102,A6,H⟩ := bA_ H;by_cases c7 : t102 = true
      ·
       subst c7;replace H := iT H;obtain rfl := Option.some.inj H;have p101 : 0 ≤ (x8_1 : Int) := oZ;have q101 : x8_1 < (l0.length : Int) := oZ;obtain ⟨ad101,e101,hx101_0⟩ := Kd.at_int HR0.out x8_1 p101 q101;cases e101
       replace p101 := eq_true p101;replace q101 := eq_true q101;go_wp2_with (first | (go_at_call 98;(with_reducible refine (impl_GoodBus_1.calls (rd l0 x8_1) true _ A6.out).mono ?_);rintro e w' ⟨rfl,⟨nd,rfl⟩⟩));go_ret;exact ⟨by first | rfl | (simp;done) | (simp [*];done),by repeat (first | exact Drawn0.refl _ | apply Drawn0.step)⟩
      ·
       replace c7 := Bool.eq_false_iff.mpr c7;subst c7;replace H := iF H;have H' := aS H;clear H;have p101 : 0 ≤ (x8_1 : Int) := oZ;have q101 : x8_1 < (l0.length : Int) := oZ;obtain ⟨ad101,e101,hx101_0⟩ := Kd.at_int HR0.out x8_1 p101 q101;cases e101
       replace p101 := eq_true p101;replace q101 := eq_true q101;go_wp2_with (first | (go_at_call 98;(with_reducible refine (impl_GoodBus_1.calls (rd l0 x8_1) false _ A6.out).mono ?_);rintro e w' ⟨rfl,⟨nd,rfl⟩⟩));go_roundg k1;case measure => have := HK1.out;omega
       case rel => exact ⟨(wrap64 (x8_1 + 1)),oE,H',⟨by have := HK1.out;omega⟩,by repeat (first | exact Drawn0.refl _ | apply Drawn0.step)⟩
     · rw [if_neg c5] at H;exact absurd H (by simp)
    · rw [if_neg c4] at H;exact absurd H (by simp)
   · rw [if_neg c3] at H;have c3b0 := decide_eq_false c3;clear c3;obtain rfl := Option.some.inj H;go_wp2;go_ret;exact ⟨by first | rfl | (simp;done) | (simp [*];done),by repeat (first | exact Drawn0.refl _ | apply Drawn0.step)⟩

/-! ### slices_ContainsFunc_97_g98: function 97 -/
def slices_ContainsFunc_97_g98.f (k : Nat) (l0 : List Int)  : Option (Bool) := (slices_IndexFunc_127_g98.f k l0).bind fun t101 => (some (decide (t101 ≥ 0)))
theorem slices_ContainsFunc_97_g98.mono : ∀ a0 k,LeO (slices_ContainsFunc_97_g98.f k a0) (slices_ContainsFunc_97_g98.f (k + 1) a0) := by
 intro a0 k
 unfold slices_ContainsFunc_97_g98.f
 with_reducible repeat' first | exact slices_IndexFunc_127_g98.mono _ _ | exact LeO.refl _ | exact LeO.none _ | refine LeO.ite ?_ ?_ | refine LeO.bind ?_ (fun _ => ?_)
set_option maxHeartbeats 8000000 in
set_option maxRecDepth 100000 in
theorem slices_ContainsFunc_97_g98.calls (k : Nat) (A0 : Option Addr) (c0 : Nat) (l0 : List Int)  (r : Bool) (w : World) (hr0 : Kd.C (Kd.int .i64) w A0 l0.length l0) (hc0 : l0.length ≤ c0) (h : slices_ContainsFunc_97_g98.f k l0 = some r) :
  Calls Try.prog 97 #[.slice A0 l0.length c0,(.func (.func 98) #[] #[])] w fun e w' => e = .returned (.bool r) ∧ Drawn0 w w' := by
 have HR0 := aS hr0;have HC0 := aS hc0;clear hr0 hc0;unfold slices_ContainsFunc_97_g98.f at h;have H := h;clear h;obtain ⟨t101,A3,H⟩ := bA_ H;obtain rfl := Option.some.inj H;go_enter Try.func97,Try.ntmps97;go_wp2_with (first | (go_at_call 127;(with_reducible refine (slices_IndexFunc_127_g98.calls k _ _ l0 t101 _ ?side1 ?side2 A3.out).mono ?_);(case side1 => repeat (first | exact HR0.out | (with_reducible refine Kd.C_alloc ?_ _) | (with_reducible refine Kd.C_drewN ?_ _) | (with_reducible refine Kd.C_drew ?_)));(case side2 => exact HC0.out);rintro e w' ⟨rfl,⟨nd,rfl⟩⟩));go_ret;exact ⟨by first | rfl | (simp;done) | (simp [*];done),by repeat (first | exact Drawn0.refl _ | apply Drawn0.step)⟩

/-! ### slices_IndexFunc_128_g100: function 128 -/
def slices_IndexFunc_128_g100.l0 : Nat → List (S115) → Int → Int → Option (Int)
 | 0,_,_,_ => none
 | k + 1,x0,x7,x8 => if x8 < x7 then (if 0 ≤ x8 then (if x8 < (x0.length : Int) then ((impl_GoodBus_2.f ((rd_T115 x0 x8).f0) ((rd_T115 x0 x8).f1) ((rd_T115 x0 x8).f2) ((rd_T115 x0 x8).f3) ((rd_T115 x0 x8).f4)).bind fun t102 => (if t102 = true then (some x8) else (slices_IndexFunc_128_g100.l0 k x0 x7 (wrap64 (x8 + 1))))) else (none)) else (none)) else (some (-1))
def slices_IndexFunc_128_g100.f (k : Nat) (l0 : List (S115))  : Option (Int) := slices_IndexFunc_128_g100.l0 k l0 (l0.length : Int) 0
theorem slices_IndexFunc_128_g100.mono_l : ∀ k,(∀ y0 y1 y2,LeO (slices_IndexFunc_128_g100.l0 k y0 y1 y2) (slices_IndexFunc_128_g100.l0 (k + 1) y0 y1 y2))
 | 0 => fun _ _ _ r h => by simp [slices_IndexFunc_128_g100.l0] at h
 | k + 1 => by
  have ih0 := slices_IndexFunc_128_g100.mono_l k
  ·
   intro y0 y1 y2
   unfold slices_IndexFunc_128_g100.l0
   with_reducible repeat' first | exact ih0 _ _ _ | exact LeO.refl _ | exact LeO.none _ | refine LeO.ite ?_ ?_ | refine LeO.bind ?_ (fun _ => ?_)
theorem slices_IndexFunc_128_g100.mono : ∀ a0 k,LeO (slices_IndexFunc_128_g100.f k a0) (slices_IndexFunc_128_g100.f (k + 1) a0) := by
 intro a0 k
 have ih0 := slices_IndexFunc_128_g100.mono_l k
 unfold slices_IndexFunc_128_g100.f
 with_reducible repeat' first | exact ih0 _ _ _ | exact LeO.refl _ | exact LeO.none _ | refine LeO.ite ?_ ?_ | refine LeO.bind ?_ (fun _ => ?_)
set_option maxHeartbeats 8000000 in
set_option maxRecDepth 100000 in
theorem slices_IndexFunc_128_g100.calls (k : Nat) (A0 : Option Addr) (c0 : Nat) (l0 : List (S115))  (r : Int) (w : World) (hr0 : Kd.C k115 w A0 l0.length l0) (hc0 : l0.length ≤ c0) (h : slices_IndexFunc_128_g100.f k l0 = some r) :
  Calls Try.prog 128 #[.slice A0 l0.length c0,(.func (.func 100) #[] #[])] w fun e w' => e = .returned (.int .i64 r) ∧ Below w.heap.size w w' := by
 have hu115 := Try.underlying115;have HR0 := aS hr0;have HC0 := aS hc0;clear hr0 hc0;have HB := aS (Below.refl w.heap.size w);unfold slices_IndexFunc_128_g100.f at h;have H := h;clear h;have H' := aS H;clear H;go_enter Try.func128,Try.ntmps128;go_wp2;go_loopg [8] k (fun kq v8 w' => ∃ (x8_1 : Int),v8 = .int .i64 x8_1 ∧ Aside0 (slices_IndexFunc_128_g100.l0 kq l0 (l0.length : Int) x8_1 = some r) ∧ Aside0 (kq ≤ k) ∧ Aside0 (Below w.heap.size w w'))
 case atStart => exact ⟨(0),oE,H',⟨Nat.le_refl _⟩,⟨oL⟩⟩
 case round =>
  clear H';obtain ⟨x8_1,rfl,HA,HK1,HB⟩ := hrel;cases gk with
  | zero => exact absurd HA.out (by simp [slices_IndexFunc_128_g100.l0])
  | succ k1 =>
   have H := HA.out;clear HA;simp only [slices_IndexFunc_128_g100.l0] at H;by_cases c3 : x8_1 < (l0.length : Int)
   ·
    rw [if_pos c3] at H;have c3b0 := decide_eq_true c3;clear c3;by_cases c4 : 0 ≤ x8_1
    ·
     rw [if_pos c4] at H;have c4b0 := decide_eq_true c4;clear c4;by_cases c5 : x8_1 < (l0.length : Int)
     ·
      rw [if_pos c5] at H;have c5b0 := decide_eq_true c5;clear c5;obtain ⟨t102,A6,H⟩ := bA_ H;by_cases c7 : t102 = true
      ·
       subst c7;replace H := iT H;obtain rfl := Option.some.inj H;have p101 : 0 ≤ (x8_1 : Int) := oZ;have q101 : x8_1 < (l0.length : Int) := oZ;obtain ⟨ad101,e101,hx101_0,hx101_1,hx101_2,hx101_3,hx101_4⟩ := at_T115 HR0.out x8_1 p101 q101;cases e101
       replace hx101_0 := oJ HB hx101_0;replace hx101_1 := oJ HB hx101_1;replace hx101_2 := oJ HB hx101_2;replace hx101_3 := oJ HB hx101_3;replace hx101_4 := oJ HB hx101_4;replace p101 := eq_true p101;replace q101 := eq_true q101;go_wp2_with (first | (go_at_call 100;(with_reducible refine (impl_GoodBus_2.calls ((rd_T115 l0 x8_1).f0) ((rd_T115 l0 x8_1).f1) ((rd_T115 l0 x8_1).f2) ((rd_T115 l0 x8_1).f3) ((rd_T115 l0 x8_1).f4) true _ A6.out).mono ?_);rintro e w8 ⟨rfl,hb⟩;refine mk1 (xL hb) ?_;clear HB;intro HB));go_ret;exact ⟨oE,oL⟩
      ·
       replace c7 := Bool.eq_false_iff.mpr c7;subst c7;replace H := iF H;have H' := aS H;clear H;have p101 : 0 ≤ (x8_1 : Int) := oZ;have q101 : x8_1 < (l0.length : Int) := oZ;obtain ⟨ad101,e101,hx101_0,hx101_1,hx101_2,hx101_3,hx101_4⟩ := at_T115 HR0.out x8_1 p101 q101;cases e101
       replace hx101_0 := oJ HB hx101_0;replace hx101_1 := oJ HB hx101_1;replace hx101_2 := oJ HB hx101_2;replace hx101_3 := oJ HB hx101_3;replace hx101_4 := oJ HB hx101_4;replace p101 := eq_true p101;replace q101 := eq_true q101;go_wp2_with (first | (go_at_call 100;(with_reducible refine (impl_GoodBus_2.calls ((rd_T115 l0 x8_1).f0) ((rd_T115 l0 x8_1).f1) ((rd_T115 l0 x8_1).f2) ((rd_T115 l0 x8_1).f3) ((rd_T115 l0 x8_1).f4) false _ A6.out).mono ?_);rintro e w9 ⟨rfl,hb⟩;refine mk1 (xL hb) ?_;clear HB;intro HB));go_roundg k1;case measure => have := HK1.out;omega
       case rel => exact ⟨(wrap64 (x8_1 + 1)),oE,H',⟨by have := HK1.out;omega⟩,⟨oL⟩⟩
     · rw [if_neg c5] at H;exact absurd H (by simp)
    · rw [if_neg c4] at H;exact absurd H (by simp)
   · rw [if_neg c3] at H;have c3b0 := decide_eq_false c3;clear c3;obtain rfl := Option.some.inj H;go_wp2;go_ret;exact ⟨oE,oL⟩

/-! ### slices_ContainsFunc_99_g100: function 99 -/
def slices_ContainsFunc_99_g100.f (k : Nat) (l0 : List (S115))  : Option (Bool) := (slices_IndexFunc_128_g100.f k l0).bind fun t101 => (some (decide (t101 ≥ 0)))
theorem slices_ContainsFunc_99_g100.mono : ∀ a0 k,LeO (slices_ContainsFunc_99_g100.f k a0) (slices_ContainsFunc_99_g100.f (k + 1) a0) := by
 intro a0 k
 unfold slices_ContainsFunc_99_g100.f
 with_reducible repeat' first | exact slices_IndexFunc_128_g100.mono _ _ | exact LeO.refl _ | exact LeO.none _ | refine LeO.ite ?_ ?_ | refine LeO.bind ?_ (fun _ => ?_)
set_option maxHeartbeats 8000000 in
set_option maxRecDepth 100000 in
theorem slices_ContainsFunc_99_g100.calls (k : Nat) (A0 : Option Addr) (c0 : Nat) (l0 : List (S115))  (r : Bool) (w : World) (hr0 : Kd.C k115 w A0 l0.length l0) (hc0 : l0.length ≤ c0) (h : slices_ContainsFunc_99_g100.f k l0 = some r) :
  Calls Try.prog 99 #[.slice A0 l0.length c0,(.func (.func 100) #[] #[])] w fun e w' => e = .returned (.bool r) ∧ Below w.heap.size w w' := by
 have HR0 := aS hr0;have HC0 := aS hc0;clear hr0 hc0;have HB := aS (Below.refl w.heap.size w);unfold slices_ContainsFunc_99_g100.f at h;have H := h;clear h;obtain ⟨t101,A3,H⟩ := bA_ H;obtain rfl := Option.some.inj H;go_enter Try.func99,Try.ntmps99;go_wp2_with (first | (go_at_call 128;(with_reducible refine (slices_IndexFunc_128_g100.calls k _ _ l0 t101 _ ?side1 ?side2 A3.out).mono ?_);(case side1 => repeat (first | exact HR0.out | (with_reducible refine Kd.C_alloc ?_ _) | (with_reducible refine Kd.C_drewN ?_ _) | (with_reducible refine Kd.C_drew ?_)));(case side2 => exact HC0.out);rintro e w4 ⟨rfl,hb⟩;refine mk1 (xL hb) ?_;clear HB;intro HB));go_ret;exact ⟨oE,oL⟩

/-! ### impl_GoodBus: function 61 -/
def impl_GoodBus.f (k : Nat) (l0_0 : List Int) (l0_1 : List (S115)) : Option (Bool) := if (l0_0.length : Int) = 512 then (if (l0_1.length : Int) ≤ 400 then ((slices_ContainsFunc_97_g98.f k l0_0).bind fun t102 => (if t102 = true then (some false) else ((slices_ContainsFunc_99_g100.f k l0_1).bind fun t103 => (some (!t103))))) else (some false)) else (some false)
theorem impl_GoodBus.mono : ∀ a0 a1 k,LeO (impl_GoodBus.f k a0 a1) (impl_GoodBus.f (k + 1) a0 a1) := by
 intro a0 a1 k
 unfold impl_GoodBus.f
 with_reducible repeat' first | exact slices_ContainsFunc_97_g98.mono _ _ | exact slices_ContainsFunc_99_g100.mono _ _ | exact LeO.refl _ | exact LeO.none _ | refine LeO.ite ?_ ?_ | refine LeO.bind ?_ (fun _ => ?_)
set_option maxHeartbeats 8000000 in
set_option maxRecDepth 100000 in
theorem impl_GoodBus.calls (k : Nat) (A0_0 : Option Addr) (c0_0 : Nat) (l0_0 : List Int) (A0_1 : Option Addr) (c0_1 : Nat) (l0_1 : List (S115)) (r : Bool) (w : World) (hr0_0 : Kd.C (Kd.int .i64) w A0_0 l0_0.length l0_0) (hc0_0 : l0_0.length ≤ c0_0) (hr0_1 : Kd.C k115 w A0_1 l0_1.length l0_1) (hc0_1 : l0_1.length ≤ c0_1) (h : impl_GoodBus.f k l0_0 l0_1 = some r) :
  Calls Try.prog 61 #[.agg #[.slice A0_0 l0_0.length c0_0,.slice A0_1 l0_1.length c0_1]] w fun e w' => e = .returned (.bool r) ∧ Below w.heap.size w w' := by
 have hu34 := Try.underlying34;have HR0_0 := aS hr0_0;have HC0_0 := aS hc0_0;clear hr0_0 hc0_0;have HR0_1 := aS hr0_1;have HC0_1 := aS hc0_1;clear hr0_1 hc0_1;have HB := aS (Below.refl w.heap.size w);unfold impl_GoodBus.f at h;have H := h;clear h;by_cases c2 : (l0_0.length : Int) = 512
 ·
  rw [if_pos c2] at H;obtain ⟨c2b0,c2b1⟩ := eT c2;clear c2;by_cases c3 : (l0_1.length : Int) ≤ 400
  ·
   rw [if_pos c3] at H;have c3b0 := decide_eq_true c3;have c3b1 : decide (l0_1.length ≤ 400) = true := decide_eq_true (by omega);clear c3;obtain ⟨t102,A4,H⟩ := bA_ H;by_cases c5 : t102 = true
   ·
    subst c5;replace H := iT H;obtain rfl := Option.some.inj H;go_enter Try.func61,Try.ntmps61;go_wp2_with (first | ((with_reducible refine gate_dst (N := 1) rfl ?_);(try (refine gate_guard (by rfl) ?_;dsimp only));refine boxE (w := w) oL (cs := #[.slice A0_0 l0_0.length c0_0,.slice A0_1 l0_1.length c0_1]) (t := 34) ?_;clear HB;intro gb101 w6 HB BK101 GW101;refine zz2 BK101.out ?_;intros) | (go_at_call 97;(with_reducible refine (slices_ContainsFunc_97_g98.calls k _ _ l0_0 true _ ?side1 ?side2 A4.out).mono ?_);(case side1 => exact oC HR0_0.out);(case side2 => exact HC0_0.out);rintro e w' ⟨rfl,⟨nd,rfl⟩⟩));go_ret;exact ⟨oE,oL⟩
   ·
    replace c5 := Bool.eq_false_iff.mpr c5;subst c5;replace H := iF H;obtain ⟨t103,A8,H⟩ := bA_ H;obtain rfl := Option.some.inj H;go_enter Try.func61,Try.ntmps61;go_wp2_with (first | ((with_reducible refine gate_dst (N := 1) rfl ?_);(try (refine gate_guard (by rfl) ?_;dsimp only));refine boxE (w := w) oL (cs := #[.slice A0_0 l0_0.length c0_0,.slice A0_1 l0_1.length c0_1]) (t := 34) ?_;clear HB;intro gb101 w9 HB BK101 GW101;refine zz2 BK101.out ?_;intros) | (go_at_call 97;(with_reducible refine (slices_ContainsFunc_97_g98.calls k _ _ l0_0 false _ ?side1 ?side2 A4.out).mono ?_);(case side1 => exact oC HR0_0.out);(case side2 => exact HC0_0.out);rintro e w' ⟨rfl,⟨nd,rfl⟩⟩) | (go_at_call 99;(with_reducible refine (slices_ContainsFunc_99_g100.calls k _ _ l0_1 t103 _ ?side1 ?side2 A8.out).mono ?_);(case side1 => repeat (first | exact (Kd.C_below HR0_1.out oL) | (with_reducible refine Kd.C_alloc ?_ _) | (with_reducible refine Kd.C_drewN ?_ _) | (with_reducible refine Kd.C_drew ?_)));(case side2 => exact HC0_1.out);rintro e w11 ⟨rfl,hb⟩;refine mk2 (xB BK101 hb) (xL hb) ?_;clear BK101 HB;intro BK101 HB));go_ret;exact ⟨oE,oL⟩
  ·
   rw [if_neg c3] at H;have c3b0 := decide_eq_false c3;have c3b1 : decide (l0_1.length ≤ 400) = false := decide_eq_false (by omega);clear c3;obtain rfl := Option.some.inj H;go_enter Try.func61,Try.ntmps61;go_wp2_with (first | ((with_reducible refine gate_dst (N := 1) rfl ?_);(try (refine gate_guard (by rfl) ?_;dsimp only));refine boxE (w := w) oL (cs := #[.slice A0_0 l0_0.length c0_0,.slice A0_1 l0_1.length c0_1]) (t := 34) ?_;clear HB;intro gb101 w12 HB BK101 GW101;refine zz2 BK101.out ?_;intros));go_ret;exact ⟨oE,oL⟩
 ·
  rw [if_neg c2] at H;obtain ⟨c2b0,c2b1⟩ := eF c2;obtain rfl := Option.some.inj H;go_enter Try.func61,Try.ntmps61;go_wp2_with (first | ((with_reducible refine gate_dst (N := 1) rfl ?_);(try (refine gate_guard (by rfl) ?_;dsimp only));refine boxE (w := w) oL (cs := #[.slice A0_0 l0_0.length c0_0,.slice A0_1 l0_1.length c0_1]) (t := 34) ?_;clear HB;intro gb101 w14 HB BK101 GW101;refine zz2 BK101.out ?_;intros));go_ret;exact ⟨oE,oL⟩

/-! ### impl_GoodCpu: function 32 -/
def impl_GoodCpu.f (k : Nat) (l0_0 : List Int) (l0_1 : List Int) (a0_2 : Int) (a0_3 : Int) (a0_4 : Int) (a0_5 : Int) (a0_6 : Bool) (a0_7 : Bool) (l0_8 : List Int) (l0_9 : List (S115)) (a0_10 : Bool) (a0_11 : Bool) : Option (Bool) := (impl_GoodRegs.f k l0_0 l0_1 a0_2 a0_3 a0_4 a0_5 a0_6 a0_7).bind fun t102 => (if t102 = true then ((impl_GoodBus.f k l0_8 l0_9).bind fun t103 => (if t103 = true then (if a0_10 = true then (some (!a0_11)) else (some (!false))) else (some false))) else (some false))
theorem impl_GoodCpu.mono : ∀ a0 a1 a2 a3 a4 a5 a6 a7 a8 a9 a10 a11 k,LeO (impl_GoodCpu.f k a0 a1 a2 a3 a4 a5 a6 a7 a8 a9 a10 a11) (impl_GoodCpu.f (k + 1) a0 a1 a2 a3 a4 a5 a6 a7 a8 a9 a10 a11) := by
 intro a0 a1 a2 a3 a4 a5 a6 a7 a8 a9 a10 a11 k
 unfold impl_GoodCpu.f
 with_reducible repeat' first | exact impl_GoodBus.mono _ _ _ | exact impl_GoodRegs.mono _ _ _ _ _ _ _ _ _ | exact LeO.refl _ | exact LeO.none _ | refine LeO.ite ?_ ?_ | refine LeO.bind ?_ (fun _ => ?_)
set_option maxHeartbeats 8000000 in
set_option maxRecDepth 100000 in
theorem impl_GoodCpu.calls (k : Nat) (A0_0 : Option Addr) (c0_0 : Nat) (l0_0 : List Int) (A0_1 : Option Addr) (c0_1 : Nat) (l0_1 : List Int) (a0_2 : Int) (a0_3 : Int) (a0_4 : Int) (a0_5 : Int) (a0_6 : Bool) (a0_7 : Bool) (A0_8 : Option Addr) (c0_8 : Nat) (l0_8 : List Int) (A0_9 : Option Addr) (c0_9 : Nat) (l0_9 : List (S115)) (a0_10 : Bool) (a0_11 : Bool) (r : Bool) (w : World) (hr0_0 : Kd.C (Kd.int .i64) w A0_0 l0_0.length l0_0) (hc0_0 : l0_0.length ≤ c0_0) (hr0_1 : Kd.C (Kd.int .i64) w A0_1 l0_1.length l0_1) (hc0_1 : l0_1.length ≤ c0_1) (hr0_8 : Kd.C (Kd.int .i64) w A0_8 l0_8.length l0_8) (hc0_8 : l0_8.length ≤ c0_8) (hr0_9 : Kd.C k115 w A0_9 l0_9.length l0_9) (hc0_9 : l0_9.length ≤ c0_9) (h : impl_GoodCpu.f k l0_0 l0_1 a0_2 a0_3 a0_4 a0_5 a0_6 a0_7 l0_8 l0_9 a0_10 a0_11 = some r) :
  Calls Try.prog 32 #[.agg #[.slice A0_0 l0_0.length c0_0,.slice A0_1 l0_1.length c0_1,.int .i64 a0_2,.int .i64 a0_3,.int .i64 a0_4,.int .i64 a0_5,.bool a0_6,.bool a0_7,.slice A0_8 l0_8.length c0_8,.slice A0_9 l0_9.length c0_9,.bool a0_10,.bool a0_11]] w fun e w' => e = .returned (.bool r) ∧ Below w.heap.size w w' := by
 have hu36 := Try.underlying36;have hu31 := Try.underlying31;have hu34 := Try.underlying34;have HR0_0 := aS hr0_0;have HC0_0 := aS hc0_0;clear hr0_0 hc0_0;have HR0_1 := aS hr0_1;have HC0_1 := aS hc0_1;clear hr0_1 hc0_1;have HR0_8 := aS hr0_8;have HC0_8 := aS hc0_8;clear hr0_8 hc0_8;have HR0_9 := aS hr0_9;have HC0_9 := aS hc0_9;clear hr0_9 hc0_9;have HB := aS (Below.refl w.heap.size w);unfold impl_GoodCpu.f at h;have H := h;clear h;obtain ⟨t102,A2,H⟩ := bA_ H;by_cases c3 : t102 = true
 ·
  subst c3;replace H := iT H;obtain ⟨t103,A4,H⟩ := bA_ H;by_cases c5 : t103 = true
  ·
   subst c5;replace H := iT H;by_cases c6 : a0_10 = true
   ·
    subst c6;replace H := iT H;obtain rfl := Option.some.inj H;go_enter Try.func32,Try.ntmps32;go_wp2_with (first | ((with_reducible refine gD 1 rfl ?_);refine bX (w:=w) #[.slice A0_0 l0_0.length c0_0,.slice A0_1 l0_1.length c0_1,.int .i64 a0_2,.int .i64 a0_3,.int .i64 a0_4,.int .i64 a0_5,.bool a0_6,.bool a0_7,.slice A0_8 l0_8.length c0_8,.slice A0_9 l0_9.length c0_9,.bool true,.bool a0_11] 36 ?_;clear HB;intro gb101 w7 HB BK101 GW101;refine zz12 BK101.out ?_;intros) | ((with_reducible refine gC 60 rfl ?_);refine gN Try.func60 #[.agg #[.slice A0_0 l0_0.length c0_0,.slice A0_1 l0_1.length c0_1,.int .i64 a0_2,.int .i64 a0_3,.int .i64 a0_4,.int .i64 a0_5,.bool a0_6,.bool a0_7]] ?_;(with_reducible refine (impl_GoodRegs.calls k _ _ l0_0 _ _ l0_1 a0_2 a0_3 a0_4 a0_5 a0_6 a0_7 true _ ?side1 ?side2 ?side3 ?side4 A2.out).mono ?_);(case side1 => exact oC HR0_0.out);(case side2 => exact HC0_0.out);(case side3 => exact oC HR0_1.out);(case side4 => exact HC0_1.out);rintro e w9 ⟨rfl,hb⟩;refine ⟨_,rfl,?_⟩;refine mk2 (xB BK101 hb) (xL hb) ?_;clear BK101 HB;intro BK101 HB;refine zz12 BK101.out ?_;intros) | (go_at_call 61;(with_reducible refine (impl_GoodBus.calls k _ _ l0_8 _ _ l0_9 true _ ?side1 ?side2 ?side3 ?side4 A4.out).mono ?_);(case side1 => exact oC HR0_8.out);(case side2 => exact HC0_8.out);(case side3 => exact oC HR0_9.out);(case side4 => exact HC0_9.out);rintro e w11 ⟨rfl,hb⟩;refine mk2 (xB BK101 hb) (xL hb) ?_;clear BK101 HB;intro BK101 HB;refine zz12 BK101.out ?_;intros));go_ret;exact ⟨oE,oL⟩
   ·
    replace c6 := Bool.eq_false_iff.mpr c6;subst c6;replace H := iF H;obtain rfl := Option.some.inj H;go_enter Try.func32,Try.ntmps32;go_wp2_with (first | ((with_reducible refine gD 1 rfl ?_);refine bX (w:=w) #[.slice A0_0 l0_0.length c0_0,.slice A0_1 l0_1.length c0_1,.int .i64 a0_2,.int .i64 a0_3,.int .i64 a0_4,.int .i64 a0_5,.bool a0_6,.bool a0_7,.slice A0_8 l0_8.length c0_8,.slice A0_9 l0_9.length c0_9,.bool false,.bool a0_11] 36 ?_;clear HB;intro gb101 w13 HB BK101 GW101;refine zz12 BK101.out ?_;intros) | ((with_reducible refine gC 60 rfl ?_);refine gN Try.func60 #[.agg #[.slice A0_0 l0_0.length c0_0,.slice A0_1 l0_1.length c0_1,.int .i64 a0_2,.int .i64 a0_3,.int .i64 a0_4,.int .i64 a0_5,.bool a0_6,.bool a0_7]] ?_;(with_reducible refine (impl_GoodRegs.calls k _ _ l0_0 _ _ l0_1 a0_2 a0_3 a0_4 a0_5 a0_6 a0_7 true _ ?side1 ?side2 ?side3 ?side4 A2.out).mono ?_);(case side1 => exact oC HR0_0.out);(case side2 => exact HC0_0.out);(case side3 => exact oC HR0_1.out);(case side4 => exact HC0_1.out);rintro e w15 ⟨rfl,hb⟩;refine ⟨_,rfl,?_⟩;refine mk2 (xB BK101 hb) (xL hb) ?_;clear BK101 HB;intro BK101 HB;refine zz12 BK101.out ?_;intros) | (go_at_call 61;(with_reducible refine (impl_GoodBus.calls k _ _ l0_8 _ _ l0_9 true _ ?side1 ?side2 ?side3 ?side4 A4.out).mono ?_);(case side1 => exact oC HR0_8.out);(case side2 => exact HC0_8.out);(case side3 => exact oC HR0_9.out);(case side4 => exact HC0_9.out);rintro e w17 ⟨rfl,hb⟩;refine mk2 (xB BK101 hb) (xL hb) ?_;clear BK101 HB;intro BK101 HB;refine zz12 BK101.out ?_;intros));go_ret;exact ⟨oE,oL⟩
  ·
   replace c5 := Bool.eq_false_iff.mpr c5;subst c5;replace H := iF H;obtain rfl := Option.some.inj H;go_enter Try.func32,Try.ntmps32;go_wp2_with (first | ((with_reducible refine gD 1 rfl ?_);refine bX (w:=w) #[.slice A0_0 l0_0.length c0_0,.slice A0_1 l0_1.length c0_1,.int .i64 a0_2,.int .i64 a0_3,.int .i64 a0_4,.int .i64 a0_5,.bool a0_6,.bool a0_7,.slice A0_8 l0_8.length c0_8,.slice A0_9 l0_9.length c0_9,.bool a0_10,.bool a0_11] 36 ?_;clear HB;intro gb101 w19 HB BK101 GW101;refine zz12 BK101.out ?_;intros) | ((with_reducible refine gC 60 rfl ?_);refine gN Try.func60 #[.agg #[.slice A0_0 l0_0.length c0_0,.slice A0_1 l0_1.length c0_1,.int .i64 a0_2,.int .i64 a0_3,.int .i64 a0_4,.int .i64 a0_5,.bool a0_6,.bool a0_7]] ?_;(with_reducible refine (impl_GoodRegs.calls k _ _ l0_0 _ _ l0_1 a0_2 a0_3 a0_4 a0_5 a0_6 a0_7 true _ ?side1 ?side2 ?side3 ?side4 A2.out).mono ?_);(case side1 => exact oC HR0_0.out);(case side2 => exact HC0_0.out);(case side3 => exact oC HR0_1.out);(case side4 => exact HC0_1.out);rintro e w21 ⟨rfl,hb⟩;refine ⟨_,rfl,?_⟩;refine mk2 (xB BK101 hb) (xL hb) ?_;clear BK101 HB;intro BK101 HB;refine zz12 BK101.out ?_;intros) | (go_at_call 61;(with_reducible refine (impl_GoodBus.calls k _ _ l0_8 _ _ l0_9 false _ ?side1 ?side2 ?side3 ?side4 A4.out).mono ?_);(case side1 => exact oC HR0_8.out);(case side2 => exact HC0_8.out);(case side3 => exact oC HR0_9.out);(case side4 => exact HC0_9.out);rintro e w23 ⟨rfl,hb⟩;refine mk2 (xB BK101 hb) (xL hb) ?_;clear BK101 HB;intro BK101 HB));go_ret;exact ⟨oE,oL⟩
 ·
  replace c3 := Bool.eq_false_iff.mpr c3;subst c3;replace H := iF H;obtain rfl := Option.some.inj H;go_enter Try.func32,Try.ntmps32;go_wp2_with (first | ((with_reducible refine gD 1 rfl ?_);refine bX (w:=w) #[.slice A0_0 l0_0.length c0_0,.slice A0_1 l0_1.length c0_1,.int .i64 a0_2,.int .i64 a0_3,.int .i64 a0_4,.int .i64 a0_5,.bool a0_6,.bool a0_7,.slice A0_8 l0_8.length c0_8,.slice A0_9 l0_9.length c0_9,.bool a0_10,.bool a0_11] 36 ?_;clear HB;intro gb101 w24 HB BK101 GW101;refine zz12 BK101.out ?_;intros) | ((with_reducible refine gC 60 rfl ?_);refine gN Try.func60 #[.agg #[.slice A0_0 l0_0.length c0_0,.slice A0_1 l0_1.length c0_1,.int .i64 a0_2,.int .i64 a0_3,.int .i64 a0_4,.int .i64 a0_5,.bool a0_6,.bool a0_7]] ?_;(with_reducible refine (impl_GoodRegs.calls k _ _ l0_0 _ _ l0_1 a0_2 a0_3 a0_4 a0_5 a0_6 a0_7 false _ ?side1 ?side2 ?side3 ?side4 A2.out).mono ?_);(case side1 => exact oC HR0_0.out);(case side2 => exact HC0_0.out);(case side3 => exact oC HR0_1.out);(case side4 => exact HC0_1.out);rintro e w26 ⟨rfl,hb⟩;refine ⟨_,rfl,?_⟩;refine mk2 (xB BK101 hb) (xL hb) ?_;clear BK101 HB;intro BK101 HB));go_ret;exact ⟨oE,oL⟩

/-! ### slices_Clone_int_int: function 102 -/
def slices_Clone_int_int.f (l0 : List Int) : Option (List Int) := (some (([] : List Int) : List Int)).bind fun y101 => (if y101.length + l0.length < 17592186044416 then (some (y101 ++ l0)) else (none))
set_option maxHeartbeats 8000000 in
set_option maxRecDepth 100000 in
theorem slices_Clone_int_int.calls (A0 : Option Addr) (c0 : Nat) (l0 : List Int) (r : List Int) (w : World) (hr0 : Kd.C (Kd.int .i64) w A0 l0.length l0) (hc0 : l0.length ≤ c0) (h : slices_Clone_int_int.f l0 = some r) :
  Calls Try.prog 102 #[.slice A0 l0.length c0] w fun e w' => ∃ v0_ : Value,e = .returned (v0_) ∧ Kd.R (Kd.int .i64) 3 w' w.heap.size (fun _ => True) v0_ r ∧ Below w.heap.size w w' := by
 have HR0 := aS hr0;have HC0 := aS hc0;clear hr0 hc0;have HB := aS (Below.refl w.heap.size w);unfold slices_Clone_int_int.f at h;have H := h;clear h;obtain ⟨y101,hy101,H⟩ := bS H
 have Ny101 := aS hy101;clear hy101;by_cases c2 : y101.length + l0.length < 17592186044416
 ·
  rw [if_pos c2] at H;have LMc2 := aS c2;clear c2;obtain ⟨y104,hy104⟩ : ∃ y_ : List Int,y_ = (y101 ++ l0) := ⟨_,rfl⟩;rw [← hy104] at H
  have Ny104 := aS hy104;clear hy104;obtain rfl := Option.some.inj H;cases A0 with
  | none =>
   have hl0 : l0 = [] := List.eq_nil_of_length_eq_zero (Nat.eq_zero_of_not_pos fun hp => by obtain ⟨ad,e,_⟩ := HR0.out.2.2 hp;cases e);have hz : y104 = [] := by rw [Ny104.out,Ny101.out,hl0];rfl
   have HZ := aS hz;clear hz hl0;have heq := fun W => Lib.run_eql_slice_nil (P := Try.prog) W 22 3 none l0.length c0 0 0 Try.underlying22
   go_enter Try.func102,Try.ntmps102;go_wp2;go_ret;exact ⟨_,rfl,by rw [HZ.out];exact Kd.R_nil _ _ _ _ _,Below.refl _ _⟩
  | some ad =>
   have heq := fun W => Lib.run_eql_slice_nil (P := Try.prog) W 22 3 (some ad) l0.length c0 0 0 Try.underlying22
   go_enter Try.func102,Try.ntmps102;go_wp2_with (first | ((with_reducible refine gate_dst (N := 5) rfl ?_);refine Kd.R_lit (Kd.int .i64) _ 3 ?hg (N := 5) ?hd (xs := ([] : List Int)) (inner := []) (ok := fun _ => True) (okp := fun _ => True) ?hr ?hp (fun _ hk => hk) trivial (Below.refl _ _) (Nat.le_refl _) (by simp) ?_;(case hd => rfl);(case hg => rfl);(case hr => first | (go_simp;done) | (go_simp;rfl));(case hp => exact (Reps.none _ _));intro v102 w3 ho4 hb hg_ hnew_;clear hg_ hnew_;(first | rw [← Ny101.out] at ho4 | (simp only [Int.reduceToNat] at ho4;rw [← Ny101.out] at ho4));refine mk2 (Kd.R_lower ho4 (below_size oL)) (xL hb) ?_;clear HB;intro HO103 HB;clear hb ho4) | ((with_reducible refine gate_builtin (b := .append) (xs := #[.tmp 5,.tmp 6]) rfl ?_);at_builtin;refine Kd.R_append_rows (Kd.int .i64) (w0 := w) w.heap.size rfl (.tmp 5) (.tmp 6) 22 3 (.int .i64 0) 8 rfl Try.underlying22 info3 rfl (by decide) (by omega) v102 y101 l0 _ _ _ (fun _ => True) (fun _ => False) rfl rfl ?aO ?aR (fun _ _ h => h) (fun _ h => h.elim) ?aF ?aB ?aS ?aL ?_;(case aR => repeat (first | exact (Kd.C_below HR0.out HB.out) | (with_reducible refine Kd.C_alloc ?_ _) | (with_reducible refine Kd.C_drewN ?_ _) | (with_reducible refine Kd.C_drew ?_)));(case aB => exact oL);(case aF => exact (fun _ _ => trivial));(case aO => exact (oR HO103.out));(case aS => exact (below_size oL));(case aL => have := LMc2.out;omega);intro v105 w5 ho hb hg hat;rw [← Ny104.out] at ho;refine mk2 (hb) (ho) ?_;clear HB HO103;intro HB HO106;clear ho hb hg hat));go_ret;exact ⟨_,oE,by (with_reducible repeat (first | apply Kd.R_alloc | apply Kd.R_drewN | apply Kd.R_drew));exact HO106.out,oL⟩
 · rw [if_neg c2] at H;exact absurd H (by simp)

/-! ### impl_ownRegs: function 62 -/
def impl_ownRegs.f (l0_0 : List Int) (l0_1 : List Int) (a0_2 : Int) (a0_3 : Int) (a0_4 : Int) (a0_5 : Int) (a0_6 : Bool) (a0_7 : Bool) : Option (List Int × List Int × Int × Int × Int × Int × Bool × Bool) := (slices_Clone_int_int.f l0_0).bind fun t103 => ((slices_Clone_int_int.f l0_1).bind fun t106 => (some (t103,t106,a0_2,a0_3,a0_4,a0_5,a0_6,a0_7)))
def impl_ownRegs.T1 : Bool × List (List Nat × List Nat) := (true,[([],[]),([0],[0]),([1],[1]),([],[]),([3],[3]),([4,2],[4]),([0,1,2,3,4],[]),([6,2,5,0,1,2,3,4],[2,6]),([0,1,2,3,4,5,6,7],[]),([8,5,7,0,1,2,3,4,5,6,7],[5,8])])
def impl_ownRegs.B1 : List Nat := [0,1,3,0,8,31,31,127,255,511]
theorem impl_ownRegs.tab1 : rtab .any (opsOf Try.f62 1) = impl_ownRegs.T1 := by kernel_rfl
theorem impl_ownRegs.bits1 : waitsOk impl_ownRegs.T1.2 impl_ownRegs.B1 = true := by kernel_rfl
set_option maxHeartbeats 8000000 in
set_option maxRecDepth 100000 in
theorem impl_ownRegs.calls (A0_0 : Option Addr) (c0_0 : Nat) (l0_0 : List Int) (A0_1 : Option Addr) (c0_1 : Nat) (l0_1 : List Int) (a0_2 : Int) (a0_3 : Int) (a0_4 : Int) (a0_5 : Int) (a0_6 : Bool) (a0_7 : Bool) (r1 : List Int) (r2 : List Int) (r3 : Int) (r4 : Int) (r5 : Int) (r6 : Int) (r7 : Bool) (r8 : Bool) (w : World) (hr0_0 : Kd.C (Kd.int .i64) w A0_0 l0_0.length l0_0) (hc0_0 : l0_0.length ≤ c0_0) (hr0_1 : Kd.C (Kd.int .i64) w A0_1 l0_1.length l0_1) (hc0_1 : l0_1.length ≤ c0_1) (h : impl_ownRegs.f l0_0 l0_1 a0_2 a0_3 a0_4 a0_5 a0_6 a0_7 = some (r1,r2,r3,r4,r5,r6,r7,r8)) :
  Calls Try.prog 62 #[.agg #[.slice A0_0 l0_0.length c0_0,.slice A0_1 l0_1.length c0_1,.int .i64 a0_2,.int .i64 a0_3,.int .i64 a0_4,.int .i64 a0_5,.bool a0_6,.bool a0_7]] w fun e w' => ∃ v0_ v1_ : Value,e = .returned (.agg #[v0_,v1_,.int .i64 r3,.int .i64 r4,.int .i64 r5,.int .i64 r6,.bool r7,.bool r8]) ∧ Kd.R (Kd.int .i64) 3 w' w.heap.size (fun k_ => some k_ ≠ (v1_ : Value).ownBlock) v0_ r1 ∧ Kd.R (Kd.int .i64) 3 w' w.heap.size (fun k_ => some k_ ≠ (v0_ : Value).ownBlock) v1_ r2 ∧ Below w.heap.size w w' := by
 have hu31 := Try.underlying31;have HR0_0 := aS hr0_0;have HC0_0 := aS hc0_0;clear hr0_0 hc0_0;have HR0_1 := aS hr0_1;have HC0_1 := aS hc0_1;clear hr0_1 hc0_1;have HB := aS (Below.refl w.heap.size w);unfold impl_ownRegs.f at h;have H := h;clear h;obtain ⟨t103,A2,H⟩ := bA_ H;obtain ⟨t106,A3,H⟩ := bA_ H;simp only [Option.some.injEq,Prod.mk.injEq] at H;obtain ⟨rfl,rfl,rfl,rfl,rfl,rfl,rfl,rfl⟩ := H;go_enter Try.func62,Try.ntmps62;try go_wp2_with (first | ((with_reducible refine gD 1 rfl ?_);refine bX (w:=w) #[.slice A0_0 l0_0.length c0_0,.slice A0_1 l0_1.length c0_1,.int .i64 a0_2,.int .i64 a0_3,.int .i64 a0_4,.int .i64 a0_5,.bool a0_6,.bool a0_7] 31 ?_;clear HB;intro gb101 w4 HB BK101 GW101) | ((with_reducible refine gD 2 rfl ?_);refine bY #[.slice none 0 0,.slice none 0 0,.int .i64 0,.int .i64 0,.int .i64 0,.int .i64 0,.bool false,.bool false] 31 ?_;intro gb102 hg w5 hbox hb;refine mk6 (xB BK101 hb) (xL hb) (hbox) (xG hg HB) (xN hg BK101) (xM hg BK101) ?_;clear BK101 HB;intro BK101 HB BK102 GW102 NB101_102 NB102_101;clear hb hbox hg))
 refine mk3 (blk_drew BK101.out) (blk_drew BK102.out) (below_drew1 HB.out) ?_;clear BK101 BK102 HB;intro BK101 BK102 HB;refine start_ (n := 10) (S := fun w' => w'.cell? ⟨gb101,0,none⟩ = some (.slice A0_0 l0_0.length c0_0) ∧ w'.cell? ⟨gb101,1,none⟩ = some (.slice A0_1 l0_1.length c0_1) ∧ w'.cell? ⟨gb101,2,none⟩ = some (.int .i64 a0_2) ∧ w'.cell? ⟨gb101,3,none⟩ = some (.int .i64 a0_3) ∧ w'.cell? ⟨gb101,4,none⟩ = some (.int .i64 a0_4) ∧ w'.cell? ⟨gb101,5,none⟩ = some (.int .i64 a0_5) ∧ w'.cell? ⟨gb101,6,none⟩ = some (.bool a0_6) ∧ w'.cell? ⟨gb101,7,none⟩ = some (.bool a0_7)) (ds := [7,9]) (bA 10 0) (by kernel_rfl) rfl rfl ⟨xc BK101,xc BK101,xc BK101,xc BK101,xc BK101,xc BK101,xc BK101,xc BK101⟩ (fun hHeld => ?_);refine with_tabW impl_ownRegs.tab1 impl_ownRegs.bits1 (fun HT_ HW_ => ?_);generalize w5.drew = w6 at BK101 BK102 HB hHeld ⊢;refine pB 0 3 1 ?_;refine pB 3 6 9 ?_;refine tB 1 4 11 ?_;refine tB 4 7 27 ?_;refine oneB 2 5 31 fun K hK => ?_;refine goesS Try.func102 #[.slice A0_0 l0_0.length c0_0] ?_;(with_reducible refine (slices_Clone_int_int.calls _ _ l0_0 t103 _ ?side1 ?side2 A2.out).mono ?_);(case side1 => exact oC HR0_0.out);(case side2 => exact HC0_0.out);rintro e w7 ⟨v104,rfl,ho0,hb⟩;refine ⟨_,rfl,?_⟩;refine mk4 (Kd.R_lower ho0 (below_size oL)) (xB BK101 hb) (xB BK102 hb) (xL hb) ?_;clear BK101 BK102 HB;intro HO105 BK101 BK102 HB;refine hK.out _ _ (cz8 BK101.out) (fun hHeld => ?_);clear hK K;refine norm_ (a' := ?_) ?_ ?_;rotate_left;{show Act.put _ (some 5) _ = _;go_frame;(try simp only [i64_w,i32_w]);rfl};refine pB 6 9 95 ?_;refine oneB 5 8 127 fun K hK => ?_;refine goesS Try.func102 #[.slice A0_1 l0_1.length c0_1] ?_;(with_reducible refine (slices_Clone_int_int.calls _ _ l0_1 t106 _ ?side1 ?side2 A3.out).mono ?_);(case side1 => exact oC HR0_1.out);(case side2 => exact HC0_1.out);rintro e w8 ⟨v107,rfl,ho0,hb⟩;refine ⟨_,rfl,?_⟩;refine mk5 (Kd.R_elder' (oR HO105.out) (Kd.R_base ho0) hb) (Kd.R_lower (Kd.R_new' ho0 (Kd.R_lt (oR HO105.out))) (below_size oL)) (xB BK101 hb) (xB BK102 hb) (xL hb) ?_;clear HO105 BK101 BK102 HB;intro HO105 HO108 BK101 BK102 HB;obtain ⟨Ao9,co9,eo9⟩ := Kd.R_slice HO105.out;(first | subst eo9 | (injection eo9 with f1_ f2_ f3_;have f4_ := f1_.symm;have f5_ := f3_.symm;clear f1_ f2_ f3_;subst f4_;subst f5_));obtain ⟨Ao11,co11,eo11⟩ := Kd.R_slice HO108.out;(first | subst eo11 | (injection eo11 with f1_ f2_ f3_;have f4_ := f1_.symm;have f5_ := f3_.symm;clear f1_ f2_ f3_;subst f4_;subst f5_));refine hK.out _ _ (cz8 BK101.out) (fun hHeld => ?_);clear hK K;refine norm_ (a' := ?_) ?_ ?_;rotate_left;{show Act.put _ (some 8) _ = _;go_frame;(try simp only [i64_w,i32_w]);rfl};refine last_ (i := 7) (N := none) (bA 10 255) rfl rfl (one_of HT_.out (by kernel_rfl)) (by decide) (fun K hK => ?_);have hs10 : w8.cell? ⟨gb101,0,none⟩ = some (.slice A0_0 l0_0.length c0_0) := xc BK101;have hfs10 := blk_frozen BK101.out 0;have hns10_1 := NB102_101.out;have hms10_1 := NB101_102.out;refine skip_ (w1 := ?_) (by rfl) rfl ?_ ?_;rotate_left;{go_simp;rfl};refine hK.out _ _ ?_;clear hK K;refine pB 8 10 511 ?_;refine last_ (i := 9) (N := none) (bA 10 1023) rfl rfl (one_of HT_.out (by kernel_rfl)) (by decide) (fun K hK => ?_);have hs12 : w8.cell? ⟨gb101,1,none⟩ = some (.slice A0_1 l0_1.length c0_1) := xc BK101;have hfs12 := blk_frozen BK101.out 1;have hns12_1 := NB102_101.out;have hms12_1 := NB101_102.out;refine skip_ (w1 := ?_) (by rfl) rfl ?_ ?_;rotate_left;{go_simp;rfl};refine hK.out _ _ ?_;clear hK K;refine done_ (done_of HT_.out (by kernel_rfl)) ?_;have hnb13 := NB101_102.out;have hnc13 := NB102_101.out;refine zz8 BK101.out ?_;intros;refine zz8 BK102.out ?_;intros;try go_wp2
 refine bodyPost_ret (results_cell_row rfl _ _ gb102 31 #[.slice Ao9 t103.length co9,.slice Ao11 t106.length co11,.int .i64 a0_2,.int .i64 a0_3,.int .i64 a0_4,.int .i64 a0_5,.bool a0_6,.bool a0_7] (0,0) _ rfl (oP BK102.out) Try.underlying31 rfl (by kernel_rfl)) rfl ?_;exact ⟨_,_,oE,by (with_reducible repeat (first | apply Kd.R_alloc | apply Kd.R_drewN | apply Kd.R_drew));exact Kd.R_mono (oEr HO105.out BK101.out BK102.out) (fun _ hk => hk.1.1.2),by (with_reducible repeat (first | apply Kd.R_alloc | apply Kd.R_drewN | apply Kd.R_drew));exact Kd.R_mono (oEr HO108.out BK101.out BK102.out) (fun _ hk => hk.1.1.2),oL⟩

end Go.Proofs.Ythlhapafipikmaa.B
