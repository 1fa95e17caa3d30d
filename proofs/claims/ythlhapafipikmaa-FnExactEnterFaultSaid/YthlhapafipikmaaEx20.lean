-- Made by this session's program gprint.py out of the translation. Not trusted: Lean checks it.
import Derived.Test.YthlhapafipikmaaEx0
namespace Go.Proofs.Ythlhapafipikmaa.E
open Go.RowKit Go.Proofs.YthlhapafipikmaaW.PrintWords Go.Proofs.YthlhapafipikmaaW.PrintLast Go.Proofs.YthlhapafipikmaaW.PrintMore
attribute [local go_sem] max2_int min2_int max_two min_two max_three min_three max_four min_four   -- for this text's walks alone
set_option linter.unusedVariables false
set_option linter.unusedSimpArgs false

/-! ### laws_toFault: function 17 -/
def laws_toFault.f (a0_0 : Int) (a0_1 : Int) (a0_2 : Int) (a0_3 : Int) (a0_4 : Bool) : Option (Int × Int × Int × Int × Bool) := some (a0_0,a0_1,a0_2,a0_3,a0_4)
set_option maxHeartbeats 8000000 in
set_option maxRecDepth 100000 in
theorem laws_toFault.calls (a0_0 : Int) (a0_1 : Int) (a0_2 : Int) (a0_3 : Int) (a0_4 : Bool) (r1 : Int) (r2 : Int) (r3 : Int) (r4 : Int) (r5 : Bool) (w : World) (h : laws_toFault.f a0_0 a0_1 a0_2 a0_3 a0_4 = some (r1,r2,r3,r4,r5)) :
  Calls Try.prog 17 #[.agg #[.int .i64 a0_0,.int .i64 a0_1,.int .i64 a0_2,.int .i64 a0_3,.bool a0_4]] w fun e w' => e = .returned (.agg #[.int .i64 r1,.int .i64 r2,.int .i64 r3,.int .i64 r4,.bool r5]) ∧ Below w.heap.size w w' := by
 have hu47 := Try.underlying47;have hu50 := Try.underlying50;have HB := aS (Below.refl w.heap.size w);unfold laws_toFault.f at h;have H := h;clear h;simp only [Option.some.injEq,Prod.mk.injEq] at H;obtain ⟨rfl,rfl,rfl,rfl,rfl⟩ := H;go_enter Try.func17,Try.ntmps17;go_wp2_with (first | ((with_reducible refine gD 1 rfl ?_);refine bX (w:=w) #[.int .i64 a0_0,.int .i64 a0_1,.int .i64 a0_2,.int .i64 a0_3,.bool a0_4] 47 ?_;clear HB;intro gb101 w2 HB BK101 GW101) | ((with_reducible refine gD 2 rfl ?_);refine bY #[.int .i64 0,.int .i64 0,.int .i64 0,.int .i64 0,.bool false] 50 ?_;intro gb102 hg w3 hbox hb;refine mk6 (xB BK101 hb) (xL hb) (hbox) (xG hg HB) (xN hg BK101) (xM hg BK101) ?_;clear BK101 HB;intro BK101 HB BK102 GW102 NB101_102 NB102_101;clear hb hbox hg) | ((with_reducible refine gD 3 rfl ?_);refine bY #[.int .i64 0,.int .i64 0,.int .i64 0,.int .i64 0,.bool false] 50 ?_;intro gb103 hg w4 hbox hb;refine mk9 (xB BK101 hb) (xB BK102 hb) (xL hb) (hbox) (xG hg HB) (xN hg BK101) (xM hg BK101) (xN hg BK102) (xM hg BK102) ?_;clear BK101 BK102 HB;intro BK101 BK102 HB BK103 GW103 NB101_103 NB103_101 NB102_103 NB103_102;clear hb hbox hg;have hnb5 := NB101_102.out;have hnc5 := NB102_101.out;have hnb6 := NB101_103.out;have hnc6 := NB103_101.out;refine zz5 BK101.out ?_;intros;have hnb8 := NB103_102.out;have hnc8 := NB102_103.out;refine zz5 BK103.out ?_;intros;refine zz5 BK102.out ?_;intros));refine bodyPost_ret (results_cell_row rfl _ _ gb102 50 #[.int .i64 a0_0,.int .i64 a0_1,.int .i64 a0_2,.int .i64 a0_3,.bool a0_4] (0,0) _ rfl (oP BK102.out) Try.underlying50 rfl (by kernel_rfl)) rfl ?_;exact ⟨oE,oL⟩

/-! ### impl_within: function 72 -/
def impl_within.f (a0 : Int) (a1 : Int) (a2 : Int) : Option (Bool) := if a0 ≥ a1 then (some (decide (a0 ≤ a2))) else (some false)
set_option maxHeartbeats 8000000 in
set_option maxRecDepth 100000 in
theorem impl_within.calls (a0 : Int) (a1 : Int) (a2 : Int) (r : Bool) (w : World) (h : impl_within.f a0 a1 a2 = some r) :
  Calls Try.prog 72 #[.int .i64 a0,.int .i64 a1,.int .i64 a2] w fun e w' => e = .returned (.bool r) ∧ Drawn0 w w' := by
 unfold impl_within.f at h;have H := h;clear h;by_cases c4 : a0 ≥ a1;{rw [if_pos c4] at H;have c4b0 := decide_eq_true c4;clear c4;obtain rfl := Option.some.inj H;go_enter Try.func72,Try.ntmps72;go_wp2;go_ret;exact ⟨by first | rfl | (simp;done) | (simp [*];done),by repeat (first | exact Drawn0.refl _ | apply Drawn0.step)⟩};{rw [if_neg c4] at H;have c4b0 := decide_eq_false c4;clear c4;obtain rfl := Option.some.inj H;go_enter Try.func72,Try.ntmps72;go_wp2;go_ret;exact ⟨by first | rfl | (simp;done) | (simp [*];done),by repeat (first | exact Drawn0.refl _ | apply Drawn0.step)⟩}

/-! ### impl_isWord: function 43 -/
def impl_isWord.f (a0 : Int) : Option (Bool) := (impl_within.f a0 0 65535).bind fun t101 => (some t101)
set_option maxHeartbeats 8000000 in
set_option maxRecDepth 100000 in
theorem impl_isWord.calls (a0 : Int) (r : Bool) (w : World) (h : impl_isWord.f a0 = some r) :
  Calls Try.prog 43 #[.int .i64 a0] w fun e w' => e = .returned (.bool r) ∧ Drawn0 w w' := by
 unfold impl_isWord.f at h;have H := h;clear h;obtain ⟨t101,A2,H⟩ := bA_ H;obtain rfl := Option.some.inj H;go_enter Try.func43,Try.ntmps43;go_wp2_with (first | ((with_reducible refine gate_callee (f := 72) rfl ?_);refine goesQ (some 4) Try.func72 #[.int .i64 a0,.int .i64 0,.int .i64 65535] (impl_within.calls a0 0 65535 t101 _ A2.out) fun nd => ?_));go_ret;exact ⟨by first | rfl | (simp;done) | (simp [*];done),by repeat (first | exact Drawn0.refl _ | apply Drawn0.step)⟩

/-! ### impl_areWords_1: function 126 -/
def impl_areWords_1.f (a0 : Int) : Option (Bool) := (impl_isWord.f a0).bind fun t101 => (some (!t101))
set_option maxHeartbeats 8000000 in
set_option maxRecDepth 100000 in
theorem impl_areWords_1.calls (a0 : Int) (r : Bool) (w : World) (h : impl_areWords_1.f a0 = some r) :
  Calls Try.prog 126 #[.int .i64 a0] w fun e w' => e = .returned (.bool r) ∧ Drawn0 w w' := by
 unfold impl_areWords_1.f at h;have H := h;clear h;obtain ⟨t101,A2,H⟩ := bA_ H;obtain rfl := Option.some.inj H;go_enter Try.func126,Try.ntmps126;go_wp2_with (first | ((with_reducible refine gate_callee (f := 43) rfl ?_);refine goesQ (some 4) Try.func43 #[.int .i64 a0] (impl_isWord.calls a0 t101 _ A2.out) fun nd => ?_));go_ret;exact ⟨by first | rfl | (simp;done) | (simp [*];done),by repeat (first | exact Drawn0.refl _ | apply Drawn0.step)⟩

/-! ### slices_IndexFunc_127_g126: function 127 -/
def slices_IndexFunc_127_g126.l0 : Nat → List Int → Int → Int → Option (Int)
 | 0,_,_,_ => none
 | k + 1,x0,x7,x8 => if x8 < x7 then (if 0 ≤ x8 then (if x8 < (x0.length : Int) then ((impl_areWords_1.f (rd x0 x8)).bind fun t102 => (if t102 = true then (some x8) else (slices_IndexFunc_127_g126.l0 k x0 x7 (wrap64 (x8 + 1))))) else (none)) else (none)) else (some (-1))
def slices_IndexFunc_127_g126.f (k : Nat) (l0 : List Int)  : Option (Int) := slices_IndexFunc_127_g126.l0 k l0 (l0.length : Int) 0
theorem slices_IndexFunc_127_g126.mono_l : ∀ k,(∀ y0 y1 y2,LeO (slices_IndexFunc_127_g126.l0 k y0 y1 y2) (slices_IndexFunc_127_g126.l0 (k + 1) y0 y1 y2))
 | 0 => fun _ _ _ r h => by simp [slices_IndexFunc_127_g126.l0] at h
 | k + 1 => by
  have ih0 := slices_IndexFunc_127_g126.mono_l k
  ·
   intro y0 y1 y2
   unfold slices_IndexFunc_127_g126.l0
   with_reducible repeat' first | exact ih0 _ _ _ | exact LeO.refl _ | exact LeO.none _ | refine LeO.ite ?_ ?_ | refine LeO.bind ?_ (fun _ => ?_)
theorem slices_IndexFunc_127_g126.mono : ∀ a0 k,LeO (slices_IndexFunc_127_g126.f k a0) (slices_IndexFunc_127_g126.f (k + 1) a0) := by
 intro a0 k
 have ih0 := slices_IndexFunc_127_g126.mono_l k
 unfold slices_IndexFunc_127_g126.f
 with_reducible repeat' first | exact ih0 _ _ _ | exact LeO.refl _ | exact LeO.none _ | refine LeO.ite ?_ ?_ | refine LeO.bind ?_ (fun _ => ?_)
set_option maxHeartbeats 8000000 in
set_option maxRecDepth 100000 in
theorem slices_IndexFunc_127_g126.calls (k : Nat) (A0 : Option Addr) (c0 : Nat) (l0 : List Int)  (r : Int) (w : World) (hr0 : Kd.C (Kd.int .i64) w A0 l0.length l0) (hc0 : l0.length ≤ c0) (h : slices_IndexFunc_127_g126.f k l0 = some r) :
  Calls Try.prog 127 #[.slice A0 l0.length c0,(.func (.func 126) #[] #[])] w fun e w' => e = .returned (.int .i64 r) ∧ Drawn0 w w' := by
 have HR0 := aS hr0;have HC0 := aS hc0;clear hr0 hc0;unfold slices_IndexFunc_127_g126.f at h;have H := h;clear h;have H' := aS H;clear H;go_enter Try.func127,Try.ntmps127;go_wp2;go_loopg [8] k (fun kq v8 w' => ∃ (x8_1 : Int),v8 = .int .i64 x8_1 ∧ Aside0 (slices_IndexFunc_127_g126.l0 kq l0 (l0.length : Int) x8_1 = some r) ∧ Aside0 (kq ≤ k) ∧ Drawn0 w w')
 case atStart => exact ⟨(0),oE,H',⟨Nat.le_refl _⟩,by repeat (first | exact Drawn0.refl _ | apply Drawn0.step)⟩
 case round =>
  clear H';obtain ⟨x8_1,rfl,HA,HK1,⟨m1,rfl⟩⟩ := hrel;cases gk with
  | zero => exact absurd HA.out (by simp [slices_IndexFunc_127_g126.l0])
  | succ k1 =>
   have H := HA.out;clear HA;simp only [slices_IndexFunc_127_g126.l0] at H;by_cases c3 : x8_1 < (l0.length : Int)
   ·
    rw [if_pos c3] at H;have c3b0 := decide_eq_true c3;clear c3;by_cases c4 : 0 ≤ x8_1
    ·
     rw [if_pos c4] at H;have c4b0 := decide_eq_true c4;clear c4;by_cases c5 : x8_1 < (l0.length : Int)
     ·
      rw [if_pos c5] at H;have c5b0 := decide_eq_true c5;clear c5;obtain ⟨t102,A6,H⟩ := bA_ H;by_cases c7 : t102 = true
      ·
       subst c7;replace H := iT H;obtain rfl := Option.some.inj H;have p101 : 0 ≤ (x8_1 : Int) := oZ;have q101 : x8_1 < (l0.length : Int) := oZ;obtain ⟨ad101,e101,hx101_0⟩ := Kd.at_int HR0.out x8_1 p101 q101;cases e101
       replace p101 := eq_true p101;replace q101 := eq_true q101;go_wp2_with (first | (go_at_call 126;(with_reducible refine (impl_areWords_1.calls (rd l0 x8_1) true _ A6.out).mono ?_);rintro e w' ⟨rfl,⟨nd,rfl⟩⟩));go_ret;exact ⟨by first | rfl | (simp;done) | (simp [*];done),by repeat (first | exact Drawn0.refl _ | apply Drawn0.step)⟩
      ·
       replace c7 := Bool.eq_false_iff.mpr c7;subst c7;replace H := iF H;have H' := aS H;clear H;have p101 : 0 ≤ (x8_1 : Int) := oZ;have q101 : x8_1 < (l0.length : Int) := oZ;obtain ⟨ad101,e101,hx101_0⟩ := Kd.at_int HR0.out x8_1 p101 q101;cases e101
       replace p101 := eq_true p101;replace q101 := eq_true q101;go_wp2_with (first | (go_at_call 126;(with_reducible refine (impl_areWords_1.calls (rd l0 x8_1) false _ A6.out).mono ?_);rintro e w' ⟨rfl,⟨nd,rfl⟩⟩));go_roundg k1;case measure => have := HK1.out;omega
       case rel => exact ⟨(wrap64 (x8_1 + 1)),oE,H',⟨by have := HK1.out;omega⟩,by repeat (first | exact Drawn0.refl _ | apply Drawn0.step)⟩
     · rw [if_neg c5] at H;exact absurd H (by simp)
    · rw [if_neg c4] at H;exact absurd H (by simp)
   · rw [if_neg c3] at H;have c3b0 := decide_eq_false c3;clear c3;obtain rfl := Option.some.inj H;go_wp2;go_ret;exact ⟨by first | rfl | (simp;done) | (simp [*];done),by repeat (first | exact Drawn0.refl _ | apply Drawn0.step)⟩

/-! ### slices_ContainsFunc_97_g126: function 97 -/
def slices_ContainsFunc_97_g126.f (k : Nat) (l0 : List Int)  : Option (Bool) := (slices_IndexFunc_127_g126.f k l0).bind fun t101 => (some (decide (t101 ≥ 0)))
theorem slices_ContainsFunc_97_g126.mono : ∀ a0 k,LeO (slices_ContainsFunc_97_g126.f k a0) (slices_ContainsFunc_97_g126.f (k + 1) a0) := by
 intro a0 k
 unfold slices_ContainsFunc_97_g126.f
 with_reducible repeat' first | exact slices_IndexFunc_127_g126.mono _ _ | exact LeO.refl _ | exact LeO.none _ | refine LeO.ite ?_ ?_ | refine LeO.bind ?_ (fun _ => ?_)
set_option maxHeartbeats 8000000 in
set_option maxRecDepth 100000 in
theorem slices_ContainsFunc_97_g126.calls (k : Nat) (A0 : Option Addr) (c0 : Nat) (l0 : List Int)  (r : Bool) (w : World) (hr0 : Kd.C (Kd.int .i64) w A0 l0.length l0) (hc0 : l0.length ≤ c0) (h : slices_ContainsFunc_97_g126.f k l0 = some r) :
  Calls Try.prog 97 #[.slice A0 l0.length c0,(.func (.func 126) #[] #[])] w fun e w' => e = .returned (.bool r) ∧ Drawn0 w w' := by
 have HR0 := aS hr0;have HC0 := aS hc0;clear hr0 hc0;unfold slices_ContainsFunc_97_g126.f at h;have H := h;clear h;obtain ⟨t101,A3,H⟩ := bA_ H;obtain rfl := Option.some.inj H;go_enter Try.func97,Try.ntmps97;go_wp2_with (first | (go_at_call 127;(with_reducible refine (slices_IndexFunc_127_g126.calls k _ _ l0 t101 _ ?side1 ?side2 A3.out).mono ?_);(case side1 => repeat (first | exact HR0.out | (with_reducible refine Kd.C_alloc ?_ _) | (with_reducible refine Kd.C_drewN ?_ _) | (with_reducible refine Kd.C_drew ?_)));(case side2 => exact HC0.out);rintro e w' ⟨rfl,⟨nd,rfl⟩⟩));go_ret;exact ⟨by first | rfl | (simp;done) | (simp [*];done),by repeat (first | exact Drawn0.refl _ | apply Drawn0.step)⟩

/-! ### impl_areWords: function 95 -/
def impl_areWords.f (k : Nat) (l0 : List Int) : Option (Bool) := if (l0.length : Int) = 4 then ((slices_ContainsFunc_97_g126.f k l0).bind fun t101 => (some (!t101))) else (some false)
theorem impl_areWords.mono : ∀ a0 k,LeO (impl_areWords.f k a0) (impl_areWords.f (k + 1) a0) := by
 intro a0 k
 unfold impl_areWords.f
 with_reducible repeat' first | exact slices_ContainsFunc_97_g126.mono _ _ | exact LeO.refl _ | exact LeO.none _ | refine LeO.ite ?_ ?_ | refine LeO.bind ?_ (fun _ => ?_)
set_option maxHeartbeats 8000000 in
set_option maxRecDepth 100000 in
theorem impl_areWords.calls (k : Nat) (A0 : Option Addr) (c0 : Nat) (l0 : List Int) (r : Bool) (w : World) (hr0 : Kd.C (Kd.int .i64) w A0 l0.length l0) (hc0 : l0.length ≤ c0) (h : impl_areWords.f k l0 = some r) :
  Calls Try.prog 95 #[.slice A0 l0.length c0] w fun e w' => e = .returned (.bool r) ∧ Drawn0 w w' := by
 have HR0 := aS hr0;have HC0 := aS hc0;clear hr0 hc0;unfold impl_areWords.f at h;have H := h;clear h;by_cases c2 : (l0.length : Int) = 4
 ·
  rw [if_pos c2] at H;obtain ⟨c2b0,c2b1⟩ := eT c2;clear c2;obtain ⟨t101,A3,H⟩ := bA_ H;obtain rfl := Option.some.inj H;go_enter Try.func95,Try.ntmps95;go_wp2_with (first | (go_at_call 97;(with_reducible refine (slices_ContainsFunc_97_g126.calls k _ _ l0 t101 _ ?side1 ?side2 A3.out).mono ?_);(case side1 => repeat (first | exact HR0.out | (with_reducible refine Kd.C_alloc ?_ _) | (with_reducible refine Kd.C_drewN ?_ _) | (with_reducible refine Kd.C_drew ?_)));(case side2 => exact HC0.out);rintro e w' ⟨rfl,⟨nd,rfl⟩⟩));go_ret;exact ⟨by first | rfl | (simp;done) | (simp [*];done),by repeat (first | exact Drawn0.refl _ | apply Drawn0.step)⟩
 · rw [if_neg c2] at H;obtain ⟨c2b0,c2b1⟩ := eF c2;obtain rfl := Option.some.inj H;go_enter Try.func95,Try.ntmps95;go_wp2;go_ret;exact ⟨by first | rfl | (simp;done) | (simp [*];done),by repeat (first | exact Drawn0.refl _ | apply Drawn0.step)⟩

/-! ### impl_areFlags: function 96 -/
def impl_areFlags.f (a0 : Int) : Option (Bool) := (impl_within.f a0 0 31).bind fun t101 => (some t101)
set_option maxHeartbeats 8000000 in
set_option maxRecDepth 100000 in
theorem impl_areFlags.calls (a0 : Int) (r : Bool) (w : World) (h : impl_areFlags.f a0 = some r) :
  Calls Try.prog 96 #[.int .i64 a0] w fun e w' => e = .returned (.bool r) ∧ Drawn0 w w' := by
 unfold impl_areFlags.f at h;have H := h;clear h;obtain ⟨t101,A2,H⟩ := bA_ H;obtain rfl := Option.some.inj H;go_enter Try.func96,Try.ntmps96;go_wp2_with (first | ((with_reducible refine gate_callee (f := 72) rfl ?_);refine goesQ (some 4) Try.func72 #[.int .i64 a0,.int .i64 0,.int .i64 31] (impl_within.calls a0 0 31 t101 _ A2.out) fun nd => ?_));go_ret;exact ⟨by first | rfl | (simp;done) | (simp [*];done),by repeat (first | exact Drawn0.refl _ | apply Drawn0.step)⟩

/-! ### impl_GoodRegs: function 60 -/
def impl_GoodRegs.f (k : Nat) (l0_0 : List Int) (l0_1 : List Int) (a0_2 : Int) (a0_3 : Int) (a0_4 : Int) (a0_5 : Int) (a0_6 : Bool) (a0_7 : Bool) : Option (Bool) := (impl_areWords.f k l0_0).bind fun t102 => (if t102 = true then ((impl_areWords.f k l0_1).bind fun t103 => (if t103 = true then ((impl_isWord.f a0_2).bind fun t104 => (if t104 = true then ((impl_isWord.f a0_3).bind fun t105 => (if t105 = true then ((impl_areFlags.f a0_4).bind fun t106 => (if t106 = true then ((impl_within.f a0_5 0 7).bind fun t107 => (some t107)) else (some false))) else (some false))) else (some false))) else (some false))) else (some false))
theorem impl_GoodRegs.mono : ∀ a0 a1 a2 a3 a4 a5 a6 a7 k,LeO (impl_GoodRegs.f k a0 a1 a2 a3 a4 a5 a6 a7) (impl_GoodRegs.f (k + 1) a0 a1 a2 a3 a4 a5 a6 a7) := by
 intro a0 a1 a2 a3 a4 a5 a6 a7 k
 unfold impl_GoodRegs.f
 with_reducible repeat' first | exact impl_areWords.mono _ _ | exact LeO.refl _ | exact LeO.none _ | refine LeO.ite ?_ ?_ | refine LeO.bind ?_ (fun _ => ?_)
set_option maxHeartbeats 8000000 in
set_option maxRecDepth 100000 in
theorem impl_GoodRegs.calls (k : Nat) (A0_0 : Option Addr) (c0_0 : Nat) (l0_0 : List Int) (A0_1 : Option Addr) (c0_1 : Nat) (l0_1 : List Int) (a0_2 : Int) (a0_3 : Int) (a0_4 : Int) (a0_5 : Int) (a0_6 : Bool) (a0_7 : Bool) (r : Bool) (w : World) (hr0_0 : Kd.C (Kd.int .i64) w A0_0 l0_0.length l0_0) (hc0_0 : l0_0.length ≤ c0_0) (hr0_1 : Kd.C (Kd.int .i64) w A0_1 l0_1.length l0_1) (hc0_1 : l0_1.length ≤ c0_1) (h : impl_GoodRegs.f k l0_0 l0_1 a0_2 a0_3 a0_4 a0_5 a0_6 a0_7 = some r) :
  Calls Try.prog 60 #[.agg #[.slice A0_0 l0_0.length c0_0,.slice A0_1 l0_1.length c0_1,.int .i64 a0_2,.int .i64 a0_3,.int .i64 a0_4,.int .i64 a0_5,.bool a0_6,.bool a0_7]] w fun e w' => e = .returned (.bool r) ∧ Below w.heap.size w w' := by
 have hu31 := Try.underlying31;have HR0_0 := aS hr0_0;have HC0_0 := aS hc0_0;clear hr0_0 hc0_0;have HR0_1 := aS hr0_1;have HC0_1 := aS hc0_1;clear hr0_1 hc0_1;have HB := aS (Below.refl w.heap.size w);unfold impl_GoodRegs.f at h;have H := h;clear h;obtain ⟨t102,A2,H⟩ := bA_ H;by_cases c3 : t102 = true
 ·
  subst c3;replace H := iT H;obtain ⟨t103,A4,H⟩ := bA_ H;by_cases c5 : t103 = true
  ·
   subst c5;replace H := iT H;obtain ⟨t104,A6,H⟩ := bA_ H;by_cases c7 : t104 = true
   ·
    subst c7;replace H := iT H;obtain ⟨t105,A8,H⟩ := bA_ H;by_cases c9 : t105 = true
    ·
     subst c9;replace H := iT H;obtain ⟨t106,A10,H⟩ := bA_ H;by_cases c11 : t106 = true
     ·
      subst c11;replace H := iT H;obtain ⟨t107,A12,H⟩ := bA_ H;obtain rfl := Option.some.inj H;go_enter Try.func60,Try.ntmps60;go_wp2_with (first | ((with_reducible refine gD 1 rfl ?_);refine bX (w:=w) #[.slice A0_0 l0_0.length c0_0,.slice A0_1 l0_1.length c0_1,.int .i64 a0_2,.int .i64 a0_3,.int .i64 a0_4,.int .i64 a0_5,.bool a0_6,.bool a0_7] 31 ?_;clear HB;intro gb101 w13 HB BK101 GW101;refine zz8 BK101.out ?_;intros) | ((with_reducible refine gC 95 rfl ?_);refine gN Try.func95 #[.slice A0_0 l0_0.length c0_0] ?_;(with_reducible refine (impl_areWords.calls k _ _ l0_0 true _ ?side1 ?side2 A2.out).mono ?_);(case side1 => exact oC HR0_0.out);(case side2 => exact HC0_0.out);rintro e w' ⟨rfl,⟨nd,rfl⟩⟩;refine ⟨_,rfl,?_⟩) | (go_at_call 95;(with_reducible refine (impl_areWords.calls k _ _ l0_1 true _ ?side1 ?side2 A4.out).mono ?_);(case side1 => repeat (first | exact (Kd.C_below HR0_1.out oL) | (with_reducible refine Kd.C_alloc ?_ _) | (with_reducible refine Kd.C_drewN ?_ _) | (with_reducible refine Kd.C_drew ?_)));(case side2 => exact HC0_1.out);rintro e w' ⟨rfl,⟨nd,rfl⟩⟩) | (go_at_call 43;(with_reducible refine (impl_isWord.calls a0_2 true _ A6.out).mono ?_);rintro e w' ⟨rfl,⟨nd,rfl⟩⟩) | (go_at_call 43;(with_reducible refine (impl_isWord.calls a0_3 true _ A8.out).mono ?_);rintro e w' ⟨rfl,⟨nd,rfl⟩⟩) | (go_at_call 96;(with_reducible refine (impl_areFlags.calls a0_4 true _ A10.out).mono ?_);rintro e w' ⟨rfl,⟨nd,rfl⟩⟩) | (go_at_call 72;(with_reducible refine (impl_within.calls a0_5 0 7 t107 _ A12.out).mono ?_);rintro e w' ⟨rfl,⟨nd,rfl⟩⟩));go_ret;exact ⟨oE,oL⟩
     ·
      replace c11 := Bool.eq_false_iff.mpr c11;subst c11;replace H := iF H;obtain rfl := Option.some.inj H;go_enter Try.func60,Try.ntmps60;go_wp2_with (first | ((with_reducible refine gD 1 rfl ?_);refine bX (w:=w) #[.slice A0_0 l0_0.length c0_0,.slice A0_1 l0_1.length c0_1,.int .i64 a0_2,.int .i64 a0_3,.int .i64 a0_4,.int .i64 a0_5,.bool a0_6,.bool a0_7] 31 ?_;clear HB;intro gb101 w15 HB BK101 GW101;refine zz8 BK101.out ?_;intros) | ((with_reducible refine gC 95 rfl ?_);refine gN Try.func95 #[.slice A0_0 l0_0.length c0_0] ?_;(with_reducible refine (impl_areWords.calls k _ _ l0_0 true _ ?side1 ?side2 A2.out).mono ?_);(case side1 => exact oC HR0_0.out);(case side2 => exact HC0_0.out);rintro e w' ⟨rfl,⟨nd,rfl⟩⟩;refine ⟨_,rfl,?_⟩) | (go_at_call 95;(with_reducible refine (impl_areWords.calls k _ _ l0_1 true _ ?side1 ?side2 A4.out).mono ?_);(case side1 => repeat (first | exact (Kd.C_below HR0_1.out oL) | (with_reducible refine Kd.C_alloc ?_ _) | (with_reducible refine Kd.C_drewN ?_ _) | (with_reducible refine Kd.C_drew ?_)));(case side2 => exact HC0_1.out);rintro e w' ⟨rfl,⟨nd,rfl⟩⟩) | (go_at_call 43;(with_reducible refine (impl_isWord.calls a0_2 true _ A6.out).mono ?_);rintro e w' ⟨rfl,⟨nd,rfl⟩⟩) | (go_at_call 43;(with_reducible refine (impl_isWord.calls a0_3 true _ A8.out).mono ?_);rintro e w' ⟨rfl,⟨nd,rfl⟩⟩) | (go_at_call 96;(with_reducible refine (impl_areFlags.calls a0_4 false _ A10.out).mono ?_);rintro e w' ⟨rfl,⟨nd,rfl⟩⟩));go_ret;exact ⟨oE,oL⟩
    ·
     replace c9 := Bool.eq_false_iff.mpr c9;subst c9;replace H := iF H;obtain rfl := Option.some.inj H;go_enter Try.func60,Try.ntmps60;go_wp2_with (first | ((with_reducible refine gD 1 rfl ?_);refine bX (w:=w) #[.slice A0_0 l0_0.length c0_0,.slice A0_1 l0_1.length c0_1,.int .i64 a0_2,.int .i64 a0_3,.int .i64 a0_4,.int .i64 a0_5,.bool a0_6,.bool a0_7] 31 ?_;clear HB;intro gb101 w17 HB BK101 GW101;refine zz8 BK101.out ?_;intros) | ((with_reducible refine gC 95 rfl ?_);refine gN Try.func95 #[.slice A0_0 l0_0.length c0_0] ?_;(with_reducible refine (impl_areWords.calls k _ _ l0_0 true _ ?side1 ?side2 A2.out).mono ?_);(case side1 => exact oC HR0_0.out);(case side2 => exact HC0_0.out);rintro e w' ⟨rfl,⟨nd,rfl⟩⟩;refine ⟨_,rfl,?_⟩) | (go_at_call 95;(with_reducible refine (impl_areWords.calls k _ _ l0_1 true _ ?side1 ?side2 A4.out).mono ?_);(case side1 => repeat (first | exact (Kd.C_below HR0_1.out oL) | (with_reducible refine Kd.C_alloc ?_ _) | (with_reducible refine Kd.C_drewN ?_ _) | (with_reducible refine Kd.C_drew ?_)));(case side2 => exact HC0_1.out);rintro e w' ⟨rfl,⟨nd,rfl⟩⟩) | (go_at_call 43;(with_reducible refine (impl_isWord.calls a0_2 true _ A6.out).mono ?_);rintro e w' ⟨rfl,⟨nd,rfl⟩⟩) | (go_at_call 43;(with_reducible refine (impl_isWord.calls a0_3 false _ A8.out).mono ?_);rintro e w' ⟨rfl,⟨nd,rfl⟩⟩));go_ret;exact ⟨oE,oL⟩
   ·
    replace c7 := Bool.eq_false_iff.mpr c7;subst c7;replace H := iF H;obtain rfl := Option.some.inj H;go_enter Try.func60,Try.ntmps60;go_wp2_with (first | ((with_reducible refine gD 1 rfl ?_);refine bX (w:=w) #[.slice A0_0 l0_0.length c0_0,.slice A0_1 l0_1.length c0_1,.int .i64 a0_2,.int .i64 a0_3,.int .i64 a0_4,.int .i64 a0_5,.bool a0_6,.bool a0_7] 31 ?_;clear HB;intro gb101 w19 HB BK101 GW101;refine zz8 BK101.out ?_;intros) | ((with_reducible refine gC 95 rfl ?_);refine gN Try.func95 #[.slice A0_0 l0_0.length c0_0] ?_;(with_reducible refine (impl_areWords.calls k _ _ l0_0 true _ ?side1 ?side2 A2.out).mono ?_);(case side1 => exact oC HR0_0.out);(case side2 => exact HC0_0.out);rintro e w' ⟨rfl,⟨nd,rfl⟩⟩;refine ⟨_,rfl,?_⟩) | (go_at_call 95;(with_reducible refine (impl_areWords.calls k _ _ l0_1 true _ ?side1 ?side2 A4.out).mono ?_);(case side1 => repeat (first | exact (Kd.C_below HR0_1.out oL) | (with_reducible refine Kd.C_alloc ?_ _) | (with_reducible refine Kd.C_drewN ?_ _) | (with_reducible refine Kd.C_drew ?_)));(case side2 => exact HC0_1.out);rintro e w' ⟨rfl,⟨nd,rfl⟩⟩) | (go_at_call 43;(with_reducible refine (impl_isWord.calls a0_2 false _ A6.out).mono ?_);rintro e w' ⟨rfl,⟨nd,rfl⟩⟩));go_ret;exact ⟨oE,oL⟩
  ·
   replace c5 := Bool.eq_false_iff.mpr c5;subst c5;replace H := iF H;obtain rfl := Option.some.inj H;go_enter Try.func60,Try.ntmps60;go_wp2_with (first | ((with_reducible refine gD 1 rfl ?_);refine bX (w:=w) #[.slice A0_0 l0_0.length c0_0,.slice A0_1 l0_1.length c0_1,.int .i64 a0_2,.int .i64 a0_3,.int .i64 a0_4,.int .i64 a0_5,.bool a0_6,.bool a0_7] 31 ?_;clear HB;intro gb101 w21 HB BK101 GW101;refine zz8 BK101.out ?_;intros) | ((with_reducible refine gC 95 rfl ?_);refine gN Try.func95 #[.slice A0_0 l0_0.length c0_0] ?_;(with_reducible refine (impl_areWords.calls k _ _ l0_0 true _ ?side1 ?side2 A2.out).mono ?_);(case side1 => exact oC HR0_0.out);(case side2 => exact HC0_0.out);rintro e w' ⟨rfl,⟨nd,rfl⟩⟩;refine ⟨_,rfl,?_⟩) | (go_at_call 95;(with_reducible refine (impl_areWords.calls k _ _ l0_1 false _ ?side1 ?side2 A4.out).mono ?_);(case side1 => repeat (first | exact (Kd.C_below HR0_1.out oL) | (with_reducible refine Kd.C_alloc ?_ _) | (with_reducible refine Kd.C_drewN ?_ _) | (with_reducible refine Kd.C_drew ?_)));(case side2 => exact HC0_1.out);rintro e w' ⟨rfl,⟨nd,rfl⟩⟩));go_ret;exact ⟨oE,oL⟩
 ·
  replace c3 := Bool.eq_false_iff.mpr c3;subst c3;replace H := iF H;obtain rfl := Option.some.inj H;go_enter Try.func60,Try.ntmps60;go_wp2_with (first | ((with_reducible refine gD 1 rfl ?_);refine bX (w:=w) #[.slice A0_0 l0_0.length c0_0,.slice A0_1 l0_1.length c0_1,.int .i64 a0_2,.int .i64 a0_3,.int .i64 a0_4,.int .i64 a0_5,.bool a0_6,.bool a0_7] 31 ?_;clear HB;intro gb101 w23 HB BK101 GW101;refine zz8 BK101.out ?_;intros) | ((with_reducible refine gC 95 rfl ?_);refine gN Try.func95 #[.slice A0_0 l0_0.length c0_0] ?_;(with_reducible refine (impl_areWords.calls k _ _ l0_0 false _ ?side1 ?side2 A2.out).mono ?_);(case side1 => exact oC HR0_0.out);(case side2 => exact HC0_0.out);rintro e w' ⟨rfl,⟨nd,rfl⟩⟩;refine ⟨_,rfl,?_⟩));go_ret;exact ⟨oE,oL⟩

/-! ### impl_GoodBus_1: function 98 -/
def impl_GoodBus_1.f (a0 : Int) : Option (Bool) := (impl_within.f a0 0 255).bind fun t101 => (some (!t101))
set_option maxHeartbeats 8000000 in
set_option maxRecDepth 100000 in
theorem impl_GoodBus_1.calls (a0 : Int) (r : Bool) (w : World) (h : impl_GoodBus_1.f a0 = some r) :
  Calls Try.prog 98 #[.int .i64 a0] w fun e w' => e = .returned (.bool r) ∧ Drawn0 w w' := by
 unfold impl_GoodBus_1.f at h;have H := h;clear h;obtain ⟨t101,A2,H⟩ := bA_ H;obtain rfl := Option.some.inj H;go_enter Try.func98,Try.ntmps98;go_wp2_with (first | ((with_reducible refine gate_callee (f := 72) rfl ?_);refine goesQ (some 4) Try.func72 #[.int .i64 a0,.int .i64 0,.int .i64 255] (impl_within.calls a0 0 255 t101 _ A2.out) fun nd => ?_));go_ret;exact ⟨by first | rfl | (simp;done) | (simp [*];done),by repeat (first | exact Drawn0.refl _ | apply Drawn0.step)⟩

/-! ### impl_isSize: function 120 -/
def impl_isSize.f (a0 : Int) : Option (Bool) := if a0 = 1 then (some true) else (some (a0 == 2))
set_option maxHeartbeats 8000000 in
set_option maxRecDepth 100000 in
theorem impl_isSize.calls (a0 : Int) (r : Bool) (w : World) (h : impl_isSize.f a0 = some r) :
  Calls Try.prog 120 #[.int .i64 a0] w fun e w' => e = .returned (.bool r) ∧ Drawn0 w w' := by
 unfold impl_isSize.f at h;have H := h;clear h;by_cases c2 : a0 = 1;{rw [if_pos c2] at H;obtain ⟨c2b0,c2b1⟩ := eT c2;clear c2;obtain rfl := Option.some.inj H;go_enter Try.func120,Try.ntmps120;go_wp2;go_ret;exact ⟨by first | rfl | (simp;done) | (simp [*];done),by repeat (first | exact Drawn0.refl _ | apply Drawn0.step)⟩};{rw [if_neg c2] at H;obtain ⟨c2b0,c2b1⟩ := eF c2;obtain rfl := Option.some.inj H;go_enter Try.func120,Try.ntmps120;go_wp2;go_ret;exact ⟨by first | rfl | (simp;done) | (simp [*];done),by repeat (first | exact Drawn0.refl _ | apply Drawn0.step)⟩}

/-! ### impl_limitOf: function 138 -/
def impl_limitOf.f (a0 : Int) : Option (Int) := if 0 ≤ (wrap64 (8 * a0)) then (some (shl .i64 1 (wrap64 (8 * a0)))) else (none)
set_option maxHeartbeats 8000000 in
set_option maxRecDepth 100000 in
theorem impl_limitOf.calls (a0 : Int) (r : Int) (w : World) (h : impl_limitOf.f a0 = some r) :
  Calls Try.prog 138 #[.int .i64 a0] w fun e w' => e = .returned (.int .i64 r) ∧ Drawn0 w w' := by
 unfold impl_limitOf.f at h;have H := h;clear h;obtain ⟨ji2,hji2⟩ : ∃ j_ : Int,(wrap64 (8 * a0)) = j_ := ⟨_,rfl⟩;replace H : (if 0 ≤ (ji2) then (some (shl .i64 1 (ji2))) else (none)) = some r := by first | (rw [hji2] at H;exact H) | (simp only [hji2] at H ⊢;exact H)
 have hji2w : (IntKind.i64.wrap (8 * a0)) = ji2 := (i64_w _).trans hji2;by_cases c3 : 0 ≤ (ji2)
 ·
  rw [if_pos c3] at H;have c3b0 := eq_true c3;have c3b1 := decide_eq_true c3;clear c3;obtain ⟨ji4,hji4⟩ : ∃ j_ : Int,(shl .i64 1 (ji2)) = j_ := ⟨_,rfl⟩;replace H : (some ji4) = some r := by first | (rw [hji4] at H;exact H) | (simp only [hji4] at H ⊢;exact H)
  have hji4_ : (IntKind.i64.wrap (1 * 2 ^ min (ji2).toNat 64)) = ji4 := hji4;have hji4z : (ji2) ≤ 64 → (IntKind.i64.wrap (1 * 2 ^ (ji2).toNat)) = ji4 := shl_small hji4;have hji4u : (IntKind.i64.wrap (2 ^ min (ji2).toNat 64)) = ji4 := by have h_ := hji4_;rw [Int.one_mul] at h_;exact h_
  have hji4v : (ji2) ≤ 64 → (IntKind.i64.wrap (2 ^ (ji2).toNat)) = ji4 := fun hle_ => by have h_ := hji4z hle_;rw [Int.one_mul] at h_;exact h_
  have hji4y : (wrap64 (1 * 2 ^ min (ji2).toNat 64)) = ji4 := (i64_w _).symm.trans hji4_;have hji4x : (ji2) ≤ 64 → (wrap64 (1 * 2 ^ (ji2).toNat)) = ji4 := fun h_ => (i64_w _).symm.trans (hji4z h_)
  obtain rfl := Option.some.inj H;go_enter Try.func138,Try.ntmps138;go_wp2;go_ret;exact ⟨by first | rfl | (simp;done) | (simp only [← hji2,← hji4] <;> (first | rfl | simp)) | (simp [*];done),by repeat (first | exact Drawn0.refl _ | apply Drawn0.step)⟩
 · rw [if_neg c3] at H;exact absurd H (by simp)

/-! ### impl_isValue: function 129 -/
def impl_isValue.f (a0 : Int) (a1 : Int) : Option (Bool) := (impl_isSize.f a0).bind fun t101 => (if t101 = true then ((impl_limitOf.f a0).bind fun t102 => ((impl_within.f a1 0 (wrap64 (t102 - 1))).bind fun t103 => (some t103))) else (some false))
set_option maxHeartbeats 8000000 in
set_option maxRecDepth 100000 in
theorem impl_isValue.calls (a0 : Int) (a1 : Int) (r : Bool) (w : World) (h : impl_isValue.f a0 a1 = some r) :
  Calls Try.prog 129 #[.int .i64 a0,.int .i64 a1] w fun e w' => e = .returned (.bool r) ∧ Drawn0 w w' := by
 unfold impl_isValue.f at h;have H := h;clear h;obtain ⟨t101,A3,H⟩ := bA_ H;by_cases c4 : t101 = true
 ·
  subst c4;replace H := iT H;obtain ⟨t102,A5,H⟩ := bA_ H;obtain ⟨t103,A6,H⟩ := bA_ H;obtain rfl := Option.some.inj H;go_enter Try.func129,Try.ntmps129;go_wp2_with (first | ((with_reducible refine gate_callee (f := 120) rfl ?_);refine goesQ (some 6) Try.func120 #[.int .i64 a0] (impl_isSize.calls a0 true _ A3.out) fun nd => ?_) | (go_at_call 138;(with_reducible refine (impl_limitOf.calls a0 t102 _ A5.out).mono ?_);rintro e w' ⟨rfl,⟨nd,rfl⟩⟩) | (go_at_call 72;(with_reducible refine (impl_within.calls a1 0 (wrap64 (t102 - 1)) t103 _ A6.out).mono ?_);rintro e w' ⟨rfl,⟨nd,rfl⟩⟩));go_ret;exact ⟨by first | rfl | (simp;done) | (simp [*];done),by repeat (first | exact Drawn0.refl _ | apply Drawn0.step)⟩
 ·
  replace c4 := Bool.eq_false_iff.mpr c4;subst c4;replace H := iF H;obtain rfl := Option.some.inj H;go_enter Try.func129,Try.ntmps129;go_wp2_with (first | ((with_reducible refine gate_callee (f := 120) rfl ?_);refine goesQ (some 6) Try.func120 #[.int .i64 a0] (impl_isSize.calls a0 false _ A3.out) fun nd => ?_));go_ret;exact ⟨by first | rfl | (simp;done) | (simp [*];done),by repeat (first | exact Drawn0.refl _ | apply Drawn0.step)⟩

/-! ### impl_isAccess: function 101 -/
def impl_isAccess.f (a0_0 : Int) (a0_1 : Int) (a0_2 : Int) (a0_3 : Int) (a0_4 : Int) : Option (Bool) := (impl_within.f a0_0 1 3).bind fun t102 => (if t102 = true then ((impl_isWord.f a0_2).bind fun t103 => (if t103 = true then ((impl_isValue.f a0_1 a0_3).bind fun t104 => (if t104 = true then ((impl_within.f a0_4 0 3).bind fun t105 => (if t105 = true then (if a0_0 = 3 then (some (!(a0_4 == 0))) else (some (!false))) else (some false))) else (some false))) else (some false))) else (some false))
set_option maxHeartbeats 8000000 in
set_option maxRecDepth 100000 in
theorem impl_isAccess.calls (a0_0 : Int) (a0_1 : Int) (a0_2 : Int) (a0_3 : Int) (a0_4 : Int) (r : Bool) (w : World) (h : impl_isAccess.f a0_0 a0_1 a0_2 a0_3 a0_4 = some r) :
  Calls Try.prog 101 #[.agg #[.int .i64 a0_0,.int .i64 a0_1,.int .i64 a0_2,.int .i64 a0_3,.int .i64 a0_4]] w fun e w' => e = .returned (.bool r) ∧ Below w.heap.size w w' := by
 have hu115 := Try.underlying115;have HB := aS (Below.refl w.heap.size w);unfold impl_isAccess.f at h;have H := h;clear h;obtain ⟨t102,A2,H⟩ := bA_ H;by_cases c3 : t102 = true
 ·
  subst c3;replace H := iT H;obtain ⟨t103,A4,H⟩ := bA_ H;by_cases c5 : t103 = true
  ·
   subst c5;replace H := iT H;obtain ⟨t104,A6,H⟩ := bA_ H;by_cases c7 : t104 = true
   ·
    subst c7;replace H := iT H;obtain ⟨t105,A8,H⟩ := bA_ H;by_cases c9 : t105 = true
    ·
     subst c9;replace H := iT H;by_cases c10 : a0_0 = 3
     ·
      rw [if_pos c10] at H;obtain ⟨c10b0,c10b1⟩ := eT c10;clear c10;obtain rfl := Option.some.inj H;go_enter Try.func101,Try.ntmps101;go_wp2_with (first | ((with_reducible refine gD 1 rfl ?_);refine bX (w:=w) #[.int .i64 a0_0,.int .i64 a0_1,.int .i64 a0_2,.int .i64 a0_3,.int .i64 a0_4] 115 ?_;clear HB;intro gb101 w11 HB BK101 GW101;refine zz5 BK101.out ?_;intros) | ((with_reducible refine gate_callee (f := 72) rfl ?_);refine goesQ (some 5) Try.func72 #[.int .i64 a0_0,.int .i64 1,.int .i64 3] (impl_within.calls a0_0 1 3 true _ A2.out) fun nd => ?_) | (go_at_call 43;(with_reducible refine (impl_isWord.calls a0_2 true _ A4.out).mono ?_);rintro e w' ⟨rfl,⟨nd,rfl⟩⟩) | (go_at_call 129;(with_reducible refine (impl_isValue.calls a0_1 a0_3 true _ A6.out).mono ?_);rintro e w' ⟨rfl,⟨nd,rfl⟩⟩) | (go_at_call 72;(with_reducible refine (impl_within.calls a0_4 0 3 true _ A8.out).mono ?_);rintro e w' ⟨rfl,⟨nd,rfl⟩⟩));go_ret;exact ⟨oE,oL⟩
     ·
      rw [if_neg c10] at H;obtain ⟨c10b0,c10b1⟩ := eF c10;obtain rfl := Option.some.inj H;go_enter Try.func101,Try.ntmps101;go_wp2_with (first | ((with_reducible refine gD 1 rfl ?_);refine bX (w:=w) #[.int .i64 a0_0,.int .i64 a0_1,.int .i64 a0_2,.int .i64 a0_3,.int .i64 a0_4] 115 ?_;clear HB;intro gb101 w13 HB BK101 GW101;refine zz5 BK101.out ?_;intros) | ((with_reducible refine gate_callee (f := 72) rfl ?_);refine goesQ (some 5) Try.func72 #[.int .i64 a0_0,.int .i64 1,.int .i64 3] (impl_within.calls a0_0 1 3 true _ A2.out) fun nd => ?_) | (go_at_call 43;(with_reducible refine (impl_isWord.calls a0_2 true _ A4.out).mono ?_);rintro e w' ⟨rfl,⟨nd,rfl⟩⟩) | (go_at_call 129;(with_reducible refine (impl_isValue.calls a0_1 a0_3 true _ A6.out).mono ?_);rintro e w' ⟨rfl,⟨nd,rfl⟩⟩) | (go_at_call 72;(with_reducible refine (impl_within.calls a0_4 0 3 true _ A8.out).mono ?_);rintro e w' ⟨rfl,⟨nd,rfl⟩⟩));go_ret;exact ⟨oE,oL⟩
    ·
     replace c9 := Bool.eq_false_iff.mpr c9;subst c9;replace H := iF H;obtain rfl := Option.some.inj H;go_enter Try.func101,Try.ntmps101;go_wp2_with (first | ((with_reducible refine gD 1 rfl ?_);refine bX (w:=w) #[.int .i64 a0_0,.int .i64 a0_1,.int .i64 a0_2,.int .i64 a0_3,.int .i64 a0_4] 115 ?_;clear HB;intro gb101 w15 HB BK101 GW101;refine zz5 BK101.out ?_;intros) | ((with_reducible refine gate_callee (f := 72) rfl ?_);refine goesQ (some 5) Try.func72 #[.int .i64 a0_0,.int .i64 1,.int .i64 3] (impl_within.calls a0_0 1 3 true _ A2.out) fun nd => ?_) | (go_at_call 43;(with_reducible refine (impl_isWord.calls a0_2 true _ A4.out).mono ?_);rintro e w' ⟨rfl,⟨nd,rfl⟩⟩) | (go_at_call 129;(with_reducible refine (impl_isValue.calls a0_1 a0_3 true _ A6.out).mono ?_);rintro e w' ⟨rfl,⟨nd,rfl⟩⟩) | (go_at_call 72;(with_reducible refine (impl_within.calls a0_4 0 3 false _ A8.out).mono ?_);rintro e w' ⟨rfl,⟨nd,rfl⟩⟩));go_ret;exact ⟨oE,oL⟩
   ·
    replace c7 := Bool.eq_false_iff.mpr c7;subst c7;replace H := iF H;obtain rfl := Option.some.inj H;go_enter Try.func101,Try.ntmps101;go_wp2_with (first | ((with_reducible refine gD 1 rfl ?_);refine bX (w:=w) #[.int .i64 a0_0,.int .i64 a0_1,.int .i64 a0_2,.int .i64 a0_3,.int .i64 a0_4] 115 ?_;clear HB;intro gb101 w17 HB BK101 GW101;refine zz5 BK101.out ?_;intros) | ((with_reducible refine gate_callee (f := 72) rfl ?_);refine goesQ (some 5) Try.func72 #[.int .i64 a0_0,.int .i64 1,.int .i64 3] (impl_within.calls a0_0 1 3 true _ A2.out) fun nd => ?_) | (go_at_call 43;(with_reducible refine (impl_isWord.calls a0_2 true _ A4.out).mono ?_);rintro e w' ⟨rfl,⟨nd,rfl⟩⟩) | (go_at_call 129;(with_reducible refine (impl_isValue.calls a0_1 a0_3 false _ A6.out).mono ?_);rintro e w' ⟨rfl,⟨nd,rfl⟩⟩));go_ret;exact ⟨oE,oL⟩
  ·
   replace c5 := Bool.eq_false_iff.mpr c5;subst c5;replace H := iF H;obtain rfl := Option.some.inj H;go_enter Try.func101,Try.ntmps101;go_wp2_with (first | ((with_reducible refine gD 1 rfl ?_);refine bX (w:=w) #[.int .i64 a0_0,.int .i64 a0_1,.int .i64 a0_2,.int .i64 a0_3,.int .i64 a0_4] 115 ?_;clear HB;intro gb101 w19 HB BK101 GW101;refine zz5 BK101.out ?_;intros) | ((with_reducible refine gate_callee (f := 72) rfl ?_);refine goesQ (some 5) Try.func72 #[.int .i64 a0_0,.int .i64 1,.int .i64 3] (impl_within.calls a0_0 1 3 true _ A2.out) fun nd => ?_) | (go_at_call 43;(with_reducible refine (impl_isWord.calls a0_2 false _ A4.out).mono ?_);rintro e w' ⟨rfl,⟨nd,rfl⟩⟩));go_ret;exact ⟨oE,oL⟩
 ·
  replace c3 := Bool.eq_false_iff.mpr c3;subst c3;replace H := iF H;obtain rfl := Option.some.inj H;go_enter Try.func101,Try.ntmps101;go_wp2_with (first | ((with_reducible refine gD 1 rfl ?_);refine bX (w:=w) #[.int .i64 a0_0,.int .i64 a0_1,.int .i64 a0_2,.int .i64 a0_3,.int .i64 a0_4] 115 ?_;clear HB;intro gb101 w21 HB BK101 GW101;refine zz5 BK101.out ?_;intros) | ((with_reducible refine gate_callee (f := 72) rfl ?_);refine goesQ (some 5) Try.func72 #[.int .i64 a0_0,.int .i64 1,.int .i64 3] (impl_within.calls a0_0 1 3 false _ A2.out) fun nd => ?_));go_ret;exact ⟨oE,oL⟩

/-! ### impl_GoodBus_2: function 100 -/
def impl_GoodBus_2.f (a0_0 : Int) (a0_1 : Int) (a0_2 : Int) (a0_3 : Int) (a0_4 : Int) : Option (Bool) := (impl_isAccess.f a0_0 a0_1 a0_2 a0_3 a0_4).bind fun t102 => (some (!t102))
set_option maxHeartbeats 8000000 in
set_option maxRecDepth 100000 in
theorem impl_GoodBus_2.calls (a0_0 : Int) (a0_1 : Int) (a0_2 : Int) (a0_3 : Int) (a0_4 : Int) (r : Bool) (w : World) (h : impl_GoodBus_2.f a0_0 a0_1 a0_2 a0_3 a0_4 = some r) :
  Calls Try.prog 100 #[.agg #[.int .i64 a0_0,.int .i64 a0_1,.int .i64 a0_2,.int .i64 a0_3,.int .i64 a0_4]] w fun e w' => e = .returned (.bool r) ∧ Below w.heap.size w w' := by
 have hu115 := Try.underlying115;have HB := aS (Below.refl w.heap.size w);unfold impl_GoodBus_2.f at h;have H := h;clear h;obtain ⟨t102,A2,H⟩ := bA_ H;obtain rfl := Option.some.inj H;go_enter Try.func100,Try.ntmps100;go_wp2_with (first | ((with_reducible refine gD 1 rfl ?_);refine bX (w:=w) #[.int .i64 a0_0,.int .i64 a0_1,.int .i64 a0_2,.int .i64 a0_3,.int .i64 a0_4] 115 ?_;clear HB;intro gb101 w3 HB BK101 GW101;refine zz5 BK101.out ?_;intros) | ((with_reducible refine gC 101 rfl ?_);refine gN Try.func101 #[.agg #[.int .i64 a0_0,.int .i64 a0_1,.int .i64 a0_2,.int .i64 a0_3,.int .i64 a0_4]] ?_;(with_reducible refine (impl_isAccess.calls a0_0 a0_1 a0_2 a0_3 a0_4 t102 _ A2.out).mono ?_);rintro e w5 ⟨rfl,hb⟩;refine ⟨_,rfl,?_⟩;refine mk2 (xB BK101 hb) (xL hb) ?_;clear BK101 HB;intro BK101 HB));go_ret;exact ⟨oE,oL⟩

/-! ### slices_IndexFunc_127_g98: function 127 -/
def slices_IndexFunc_127_g98.l0 : Nat → List Int → Int → Int → Option (Int)
 | 0,_,_,_ => none
 | k + 1,x0,x7,x8 => if x8 < x7 then (if 0 ≤ x8 then (if x8 < (x0.length : Int) then ((impl_GoodBus_1.f (rd x0 x8)).bind fun t102 => (if t102 = true then (some x8) else (slices_IndexFunc_127_g98.l0 k x0 x7 (wrap64 (x8 + 1))))) else (none)) else (none)) else (some (-1))
def slices_IndexFunc_127_g98.f (k : Nat) (l0 : List Int)  : Option (Int) := slices_IndexFunc_127_g98.l0 k l0 (l0.length : Int) 0
theorem slices_IndexFunc_127_g98.mono_l : ∀ k,(∀ y0 y1 y2,LeO (slices_IndexFunc_127_g98.l0 k y0 y1 y2) (slices_IndexFunc_127_g98.l0 (k + 1) y0 y1 y2))
 | 0 => fun _ _ _ r h => by simp [slices_IndexFunc_127_g98.l0] at h
 | k + 1 => by
  have ih0 := slices_IndexFunc_127_g98.mono_l k
  ·
   intro y0 y1 y2
   unfold slices_IndexFunc_127_g98.l0
   with_reducible repeat' first | exact ih0 _ _ _ | exact LeO.refl _ | exact LeO.none _ | refine LeO.ite ?_ ?_ | refine LeO.bind ?_ (fun _ => ?_)
theorem slices_IndexFunc_127_g98.mono : ∀ a0 k,LeO (slices_IndexFunc_127_g98.f k a0) (slices_IndexFunc_127_g98.f (k + 1) a0) := by
 intro a0 k
 have ih0 := slices_IndexFunc_127_g98.mono_l k
 unfold slices_IndexFunc_127_g98.f
 with_reducible repeat' first | exact ih0 _ _ _ | exact LeO.refl _ | exact LeO.none _ | refine LeO.ite ?_ ?_ | refine LeO.bind ?_ (fun _ => ?_)
set_option maxHeartbeats 8000000 in
set_option maxRecDepth 100000 in
theorem slices_IndexFunc_127_g98.calls (k : Nat) (A0 : Option Addr) (c0 : Nat) (l0 : List Int)  (r : Int) (w : World) (hr0 : Kd.C (Kd.int .i64) w A0 l0.length l0) (hc0 : l0.length ≤ c0) (h : slices_IndexFunc_127_g98.f k l0 = some r) :
  Calls Try.prog 127 #[.slice A0 l0.length c0,(.func (.func 98) #[] #[])] w fun e w' => e = .returned (.int .i64 r) ∧ Drawn0 w w' := by
 have HR0 := aS hr0;have HC0 := aS hc0;clear hr0 hc0;unfold slices_IndexFunc_127_g98.f at h;have H := h;clear h;have H' := aS H;clear H;go_enter Try.func127,Try.ntmps127;go_wp2;go_loopg [8] k (fun kq v8 w' => ∃ (x8_1 : Int),v8 = .int .i64 x8_1 ∧ Aside0 (slices_IndexFunc_127_g98.l0 kq l0 (l0.length : Int) x8_1 = some r) ∧ Aside0 (kq ≤ k) ∧ Drawn0 w w')
 case atStart => exact ⟨(0),oE,H',⟨Nat.le_refl _⟩,by repeat (first | exact Drawn0.refl _ | apply Drawn0.step)⟩
 case round =>
  clear H';obtain ⟨x8_1,rfl,HA,HK1,⟨m1,rfl⟩⟩ := hrel;cases gk with
  | zero => exact absurd HA.out (by simp [slices_IndexFunc_127_g98.l0])
  | succ k1 =>
   have H := HA.out;clear HA;simp only [slices_IndexFunc_127_g98.l0] at H;by_cases c3 : x8_1 < (l0.length : Int)
   ·
    rw [if_pos c3] at H;have c3b0 := decide_eq_true c3;clear c3;by_cases c4 : 0 ≤ x8_1
    ·
     rw [if_pos c4] at H;have c4b0 := decide_eq_true c4;clear c4;by_cases c5 : x8_1 < (l0.length : Int)
     ·
      rw [if_pos c5] at H;have c5b0 := decide_eq_true c5;clear c5;obtain ⟨t102,A6,H⟩ := bA_ H;by_cases c7 : t102 = true
      ·
       subst c7;replace H := iT H;obtain rfl := Option.some.inj H;have p101 : 0 ≤ (x8_1 : Int) := oZ;have q101 : x8_1 < (l0.length : Int) := oZ;obtain ⟨ad101,e101,hx101_0⟩ := Kd.at_int HR0.out x8_1 p101 q101;cases e101
       replace p101 := eq_true p101;replace q101 := eq_true q101;go_wp2_with (first | (go_at_call 98;(with_reducible refine (impl_GoodBus_1.calls (rd l0 x8_1) true _ A6.out).mono ?_);rintro e w' ⟨rfl,⟨nd,rfl⟩⟩));go_ret;exact ⟨by first | rfl | (simp;done) | (simp [*];done),by repeat (first | exact Drawn0.refl _ | apply Drawn0.step)⟩
      ·
       replace c7 := Bool.eq_false_iff.mpr c7;subst c7;replace H := iF H;have H' := aS H;clear H;have p101 : 0 ≤ (x8_1 : Int) := oZ;have q101 : x8_1 < (l0.length : Int) := oZ;obtain ⟨ad101,e101,hx101_0⟩ := Kd.at_int HR0.out x8_1 p101 q101;cases e101
       replace p101 := eq_true p101;replace q101 := eq_true q101;go_wp2_with (first | (go_at_call 98;(with_reducible refine (impl_GoodBus_1.calls (rd l0 x8_1) false _ A6.out).mono ?_);rintro e w' ⟨rfl,⟨nd,rfl⟩⟩));go_roundg k1;case measure => have := HK1.out;omega
       case rel => exact ⟨(wrap64 (x8_1 + 1)),oE,H',⟨by have := HK1.out;omega⟩,by repeat (first | exact Drawn0.refl _ | apply Drawn0.step)⟩
     · rw [if_neg c5] at H;exact absurd H (by simp)
    · rw [if_neg c4] at H;exact absurd H (by simp)
   · rw [if_neg c3] at H;have c3b0 := decide_eq_false c3;clear c3;obtain rfl := Option.some.inj H;go_wp2;go_ret;exact ⟨by first | rfl | (simp;done) | (simp [*];done),by repeat (first | exact Drawn0.refl _ | apply Drawn0.step)⟩

/-! ### slices_ContainsFunc_97_g98: function 97 -/
def slices_ContainsFunc_97_g98.f (k : Nat) (l0 : List Int)  : Option (Bool) := (slices_IndexFunc_127_g98.f k l0).bind fun t101 => (some (decide (t101 ≥ 0)))
theorem slices_ContainsFunc_97_g98.mono : ∀ a0 k,LeO (slices_ContainsFunc_97_g98.f k a0) (slices_ContainsFunc_97_g98.f (k + 1) a0) := by
 intro a0 k
 unfold slices_ContainsFunc_97_g98.f
 with_reducible repeat' first | exact slices_IndexFunc_127_g98.mono _ _ | exact LeO.refl _ | exact LeO.none _ | refine LeO.ite ?_ ?_ | refine LeO.bind ?_ (fun _ => ?_)
set_option maxHeartbeats 8000000 in
set_option maxRecDepth 100000 in
theorem slices_ContainsFunc_97_g98.calls (k : Nat) (A0 : Option Addr) (c0 : Nat) (l0 : List Int)  (r : Bool) (w : World) (hr0 : Kd.C (Kd.int .i64) w A0 l0.length l0) (hc0 : l0.length ≤ c0) (h : slices_ContainsFunc_97_g98.f k l0 = some r) :
  Calls Try.prog 97 #[.slice A0 l0.length c0,(.func (.func 98) #[] #[])] w fun e w' => e = .returned (.bool r) ∧ Drawn0 w w' := by
 have HR0 := aS hr0;have HC0 := aS hc0;clear hr0 hc0;unfold slices_ContainsFunc_97_g98.f at h;have H := h;clear h;obtain ⟨t101,A3,H⟩ := bA_ H;obtain rfl := Option.some.inj H;go_enter Try.func97,Try.ntmps97;go_wp2_with (first | (go_at_call 127;(with_reducible refine (slices_IndexFunc_127_g98.calls k _ _ l0 t101 _ ?side1 ?side2 A3.out).mono ?_);(case side1 => repeat (first | exact HR0.out | (with_reducible refine Kd.C_alloc ?_ _) | (with_reducible refine Kd.C_drewN ?_ _) | (with_reducible refine Kd.C_drew ?_)));(case side2 => exact HC0.out);rintro e w' ⟨rfl,⟨nd,rfl⟩⟩));go_ret;exact ⟨by first | rfl | (simp;done) | (simp [*];done),by repeat (first | exact Drawn0.refl _ | apply Drawn0.step)⟩

end Go.Proofs.Ythlhapafipikmaa.E
