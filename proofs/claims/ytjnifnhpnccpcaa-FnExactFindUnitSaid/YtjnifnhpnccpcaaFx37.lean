-- Made by this session's program gprint.py out of the translation. Not trusted: Lean checks it.
import Derived.Test.YtjnifnhpnccpcaaFx0
import Derived.Test.YtjnifnhpnccpcaaFx36
namespace Go.Proofs.Ytjnifnhpnccpcaa.F
open Go.RowKit Go.Proofs.YtjnifnhpnccpcaaW.PrintWords Go.Proofs.YtjnifnhpnccpcaaW.PrintLast Go.Proofs.YtjnifnhpnccpcaaW.PrintMore
attribute [local go_sem] max2_int min2_int max_two min_two max_three min_three max_four min_four   -- for this text's walks alone
set_option linter.unusedVariables false
set_option linter.unusedSimpArgs false

/-! ### laws_heldCachedS: function 84 -/
def laws_heldCachedS.l0 : Nat → List (S101) → Int → Int → Option (Int)
 | 0,_,_,_ => none
 | k + 1,x0,x1,x5 => if x5 < (x0.length : Int) then (if 0 ≤ x5 then (if ((rd_T101 x0 x5).f0.f0) = x1 then (if ((rd_T101 x0 x5).f0.f1) = (wrap64 (x1 + 1)) then ((laws_heldMicroS.f k ((rd_T101 x0 x5).f0.f2) (wrap64 ((wrap64 (x1 + 1)) + 1))).bind fun t104 => (if t104 < 0 then (some (-1)) else (if ((rd_T101 x0 x5).f1) = t104 then (laws_heldCachedS.l0 k x0 (wrap64 (t104 + 1)) (wrap64 (x5 + 1))) else (some (-1))))) else (some (-1))) else (some (-1))) else (none)) else (some x1)
def laws_heldCachedS.f (k : Nat) (l0 : List (S101)) (a1 : Int) : Option (Int) := laws_heldCachedS.l0 k l0 a1 0
theorem laws_heldCachedS.mono_l : ∀ k,(∀ y0 y1 y2,LeO (laws_heldCachedS.l0 k y0 y1 y2) (laws_heldCachedS.l0 (k + 1) y0 y1 y2))
 | 0 => fun _ _ _ r h => by simp [laws_heldCachedS.l0] at h
 | k + 1 => by
  have ih0 := laws_heldCachedS.mono_l k
  ·
   intro y0 y1 y2
   unfold laws_heldCachedS.l0
   with_reducible repeat' first | exact ih0 _ _ _ | exact laws_heldMicroS.mono _ _ _ | exact LeO.refl _ | exact LeO.none _ | refine LeO.ite ?_ ?_ | refine LeO.bind ?_ (fun _ => ?_)
theorem laws_heldCachedS.mono : ∀ a0 a1 k,LeO (laws_heldCachedS.f k a0 a1) (laws_heldCachedS.f (k + 1) a0 a1) := by
 intro a0 a1 k
 have ih0 := laws_heldCachedS.mono_l k
 unfold laws_heldCachedS.f
 with_reducible repeat' first | exact ih0 _ _ _ | exact laws_heldMicroS.mono _ _ _ | exact LeO.refl _ | exact LeO.none _ | refine LeO.ite ?_ ?_ | refine LeO.bind ?_ (fun _ => ?_)
set_option maxHeartbeats 8000000 in
set_option maxRecDepth 100000 in
theorem laws_heldCachedS.calls (k : Nat) (A0 : Option Addr) (c0 : Nat) (l0 : List (S101)) (a1 : Int) (r : Int) (w : World) (hr0 : Kd.C k101 w A0 l0.length l0) (hc0 : l0.length ≤ c0) (h : laws_heldCachedS.f k l0 a1 = some r) :
  Calls Try.prog 84 #[.slice A0 l0.length c0,.int .i64 a1] w fun e w' => e = .returned (.int .i64 r) ∧ Drawn0 w w' := by
 have HR0 := aS hr0;have HC0 := aS hc0;clear hr0 hc0;unfold laws_heldCachedS.f at h;have H := h;clear h;have H' := aS H;clear H;go_enter Try.func84,Try.ntmps84;go_wp2;go_loopg [1,5] k (fun kq v1 v5 w' => ∃ (x1_1 : Int) (x5_1 : Int),v1 = .int .i64 x1_1 ∧ v5 = .int .i64 x5_1 ∧ Aside0 (laws_heldCachedS.l0 kq l0 x1_1 x5_1 = some r) ∧ Aside0 (kq ≤ k) ∧ Drawn0 w w')
 case atStart => exact ⟨(a1),(0),oE,oE,H',⟨Nat.le_refl _⟩,by repeat (first | exact Drawn0.refl _ | apply Drawn0.step)⟩
 case round =>
  clear H';obtain ⟨x1_1,x5_1,rfl,rfl,HA,HK1,⟨m1,rfl⟩⟩ := hrel;cases gk with
  | zero => exact absurd HA.out (by simp [laws_heldCachedS.l0])
  | succ k1 =>
   have H := HA.out;clear HA;simp only [laws_heldCachedS.l0] at H;by_cases c3 : x5_1 < (l0.length : Int)
   ·
    rw [if_pos c3] at H;have c3b0 := decide_eq_true c3;clear c3;by_cases c4 : 0 ≤ x5_1
    ·
     rw [if_pos c4] at H;have c4b0 := decide_eq_true c4;clear c4;by_cases c5 : ((rd_T101 l0 x5_1).f0.f0) = x1_1
     ·
      rw [if_pos c5] at H;obtain ⟨c5b0,c5b1⟩ := eT c5;clear c5;by_cases c6 : ((rd_T101 l0 x5_1).f0.f1) = (wrap64 (x1_1 + 1))
      ·
       rw [if_pos c6] at H;obtain ⟨c6b0,c6b1⟩ := eT c6;clear c6;obtain ⟨t104,A7,H⟩ := bA_ H;by_cases c8 : t104 < 0
       ·
        rw [if_pos c8] at H;have c8b0 := decide_eq_true c8;clear c8;obtain rfl := Option.some.inj H;have p101 : 0 ≤ (x5_1 : Int) := oZ;have q101 : x5_1 < (l0.length : Int) := oZ;obtain ⟨ad101,A101_2,c101_2,e101,hx101_0,hx101_1,hx101_2,hx101_3,hl101_2,hi101_2⟩ := at_T101 HR0.out x5_1 p101 q101;cases e101
        have HR101_2 := aS hi101_2;have HC101_2 := aS hl101_2;clear hi101_2 hl101_2;replace p101 := eq_true p101;replace q101 := eq_true q101;have p102 : 0 ≤ (x5_1 : Int) := oZ;have q102 : x5_1 < (l0.length : Int) := oZ;obtain ⟨ad102,A102_2,c102_2,e102,hx102_0,hx102_1,hx102_2,hx102_3,hl102_2,hi102_2⟩ := at_T101 HR0.out x5_1 p102 q102;obtain rfl : ad101 = ad102 := (by injection e102);have HR102_2 := aS hi102_2;have HC102_2 := aS hl102_2;clear hi102_2 hl102_2;replace p102 := eq_true p102;replace q102 := eq_true q102;have ea_ := Option.some.inj (hx101_2.symm.trans hx102_2);injection ea_ with ea_ en_ ec_;subst ea_;subst ec_;clear en_;have p103 : 0 ≤ (x5_1 : Int) := oZ;have q103 : x5_1 < (l0.length : Int) := oZ;obtain ⟨ad103,A103_2,c103_2,e103,hx103_0,hx103_1,hx103_2,hx103_3,hl103_2,hi103_2⟩ := at_T101 HR0.out x5_1 p103 q103;obtain rfl : ad101 = ad103 := (by injection e103);have HR103_2 := aS hi103_2;have HC103_2 := aS hl103_2;clear hi103_2 hl103_2;replace p103 := eq_true p103;replace q103 := eq_true q103;have ea_ := Option.some.inj (hx101_2.symm.trans hx103_2);injection ea_ with ea_ en_ ec_;subst ea_;subst ec_;clear en_;go_wp2_with (first | ((with_reducible refine gC 85 rfl ?_);refine gN Try.func85 #[.slice A101_2 ((rd_T101 l0 x5_1).f0.f2).length c101_2,.int .i64 (wrap64 ((wrap64 (x1_1 + 1)) + 1))] ?_;(with_reducible refine (laws_heldMicroS.calls k1 _ _ ((rd_T101 l0 x5_1).f0.f2) (wrap64 ((wrap64 (x1_1 + 1)) + 1)) t104 _ ?side1 ?side2 A7.out).mono ?_);(case side1 => repeat (first | exact HR103_2.out | (with_reducible refine Kd.C_alloc ?_ _) | (with_reducible refine Kd.C_drewN ?_ _) | (with_reducible refine Kd.C_drew ?_)));(case side2 => exact HC103_2.out);rintro e w' ⟨rfl,⟨nd,rfl⟩⟩;refine ⟨_,rfl,?_⟩));go_ret;exact ⟨by first | rfl | (simp;done) | (simp [*];done),by repeat (first | exact Drawn0.refl _ | apply Drawn0.step)⟩
       ·
        rw [if_neg c8] at H;have c8b0 := decide_eq_false c8;clear c8;by_cases c9 : ((rd_T101 l0 x5_1).f1) = t104
        ·
         rw [if_pos c9] at H;obtain ⟨c9b0,c9b1⟩ := eT c9;clear c9;have H' := aS H;clear H;have p101 : 0 ≤ (x5_1 : Int) := oZ;have q101 : x5_1 < (l0.length : Int) := oZ;obtain ⟨ad101,A101_2,c101_2,e101,hx101_0,hx101_1,hx101_2,hx101_3,hl101_2,hi101_2⟩ := at_T101 HR0.out x5_1 p101 q101;cases e101
         have HR101_2 := aS hi101_2;have HC101_2 := aS hl101_2;clear hi101_2 hl101_2;replace p101 := eq_true p101;replace q101 := eq_true q101;have p102 : 0 ≤ (x5_1 : Int) := oZ;have q102 : x5_1 < (l0.length : Int) := oZ;obtain ⟨ad102,A102_2,c102_2,e102,hx102_0,hx102_1,hx102_2,hx102_3,hl102_2,hi102_2⟩ := at_T101 HR0.out x5_1 p102 q102;obtain rfl : ad101 = ad102 := (by injection e102);have HR102_2 := aS hi102_2;have HC102_2 := aS hl102_2;clear hi102_2 hl102_2;replace p102 := eq_true p102;replace q102 := eq_true q102;have ea_ := Option.some.inj (hx101_2.symm.trans hx102_2);injection ea_ with ea_ en_ ec_;subst ea_;subst ec_;clear en_;have p103 : 0 ≤ (x5_1 : Int) := oZ;have q103 : x5_1 < (l0.length : Int) := oZ;obtain ⟨ad103,A103_2,c103_2,e103,hx103_0,hx103_1,hx103_2,hx103_3,hl103_2,hi103_2⟩ := at_T101 HR0.out x5_1 p103 q103;obtain rfl : ad101 = ad103 := (by injection e103);have HR103_2 := aS hi103_2;have HC103_2 := aS hl103_2;clear hi103_2 hl103_2;replace p103 := eq_true p103;replace q103 := eq_true q103;have ea_ := Option.some.inj (hx101_2.symm.trans hx103_2);injection ea_ with ea_ en_ ec_;subst ea_;subst ec_;clear en_;go_wp2_with (first | ((with_reducible refine gC 85 rfl ?_);refine gN Try.func85 #[.slice A101_2 ((rd_T101 l0 x5_1).f0.f2).length c101_2,.int .i64 (wrap64 ((wrap64 (x1_1 + 1)) + 1))] ?_;(with_reducible refine (laws_heldMicroS.calls k1 _ _ ((rd_T101 l0 x5_1).f0.f2) (wrap64 ((wrap64 (x1_1 + 1)) + 1)) t104 _ ?side1 ?side2 A7.out).mono ?_);(case side1 => repeat (first | exact HR103_2.out | (with_reducible refine Kd.C_alloc ?_ _) | (with_reducible refine Kd.C_drewN ?_ _) | (with_reducible refine Kd.C_drew ?_)));(case side2 => exact HC103_2.out);rintro e w' ⟨rfl,⟨nd,rfl⟩⟩;refine ⟨_,rfl,?_⟩;have p105 : 0 ≤ (x5_1 : Int) := oZ;have q105 : x5_1 < (l0.length : Int) := oZ;obtain ⟨ad105,A105_2,c105_2,e105,hx105_0,hx105_1,hx105_2,hx105_3,hl105_2,hi105_2⟩ := at_T101 HR0.out x5_1 p105 q105;obtain rfl : ad101 = ad105 := (by injection e105);have HR105_2 := aS hi105_2;have HC105_2 := aS hl105_2;clear hi105_2 hl105_2;replace p105 := eq_true p105;replace q105 := eq_true q105;have ea_ := Option.some.inj (hx101_2.symm.trans hx105_2);injection ea_ with ea_ en_ ec_;subst ea_;subst ec_;clear en_));go_roundg k1;case measure => have := HK1.out;omega
         case rel => exact ⟨(wrap64 (t104 + 1)),(wrap64 (x5_1 + 1)),oE,oE,H',⟨by have := HK1.out;omega⟩,by repeat (first | exact Drawn0.refl _ | apply Drawn0.step)⟩
        ·
         rw [if_neg c9] at H;obtain ⟨c9b0,c9b1⟩ := eF c9;obtain rfl := Option.some.inj H;have p101 : 0 ≤ (x5_1 : Int) := oZ;have q101 : x5_1 < (l0.length : Int) := oZ;obtain ⟨ad101,A101_2,c101_2,e101,hx101_0,hx101_1,hx101_2,hx101_3,hl101_2,hi101_2⟩ := at_T101 HR0.out x5_1 p101 q101;cases e101
         have HR101_2 := aS hi101_2;have HC101_2 := aS hl101_2;clear hi101_2 hl101_2;replace p101 := eq_true p101;replace q101 := eq_true q101;have p102 : 0 ≤ (x5_1 : Int) := oZ;have q102 : x5_1 < (l0.length : Int) := oZ;obtain ⟨ad102,A102_2,c102_2,e102,hx102_0,hx102_1,hx102_2,hx102_3,hl102_2,hi102_2⟩ := at_T101 HR0.out x5_1 p102 q102;obtain rfl : ad101 = ad102 := (by injection e102);have HR102_2 := aS hi102_2;have HC102_2 := aS hl102_2;clear hi102_2 hl102_2;replace p102 := eq_true p102;replace q102 := eq_true q102;have ea_ := Option.some.inj (hx101_2.symm.trans hx102_2);injection ea_ with ea_ en_ ec_;subst ea_;subst ec_;clear en_;have p103 : 0 ≤ (x5_1 : Int) := oZ;have q103 : x5_1 < (l0.length : Int) := oZ;obtain ⟨ad103,A103_2,c103_2,e103,hx103_0,hx103_1,hx103_2,hx103_3,hl103_2,hi103_2⟩ := at_T101 HR0.out x5_1 p103 q103;obtain rfl : ad101 = ad103 := (by injection e103);have HR103_2 := aS hi103_2;have HC103_2 := aS hl103_2;clear hi103_2 hl103_2;replace p103 := eq_true p103;replace q103 := eq_true q103;have ea_ := Option.some.inj (hx101_2.symm.trans hx103_2);injection ea_ with ea_ en_ ec_;subst ea_;subst ec_;clear en_;go_wp2_with (first | ((with_reducible refine gC 85 rfl ?_);refine gN Try.func85 #[.slice A101_2 ((rd_T101 l0 x5_1).f0.f2).length c101_2,.int .i64 (wrap64 ((wrap64 (x1_1 + 1)) + 1))] ?_;(with_reducible refine (laws_heldMicroS.calls k1 _ _ ((rd_T101 l0 x5_1).f0.f2) (wrap64 ((wrap64 (x1_1 + 1)) + 1)) t104 _ ?side1 ?side2 A7.out).mono ?_);(case side1 => repeat (first | exact HR103_2.out | (with_reducible refine Kd.C_alloc ?_ _) | (with_reducible refine Kd.C_drewN ?_ _) | (with_reducible refine Kd.C_drew ?_)));(case side2 => exact HC103_2.out);rintro e w' ⟨rfl,⟨nd,rfl⟩⟩;refine ⟨_,rfl,?_⟩;have p105 : 0 ≤ (x5_1 : Int) := oZ;have q105 : x5_1 < (l0.length : Int) := oZ;obtain ⟨ad105,A105_2,c105_2,e105,hx105_0,hx105_1,hx105_2,hx105_3,hl105_2,hi105_2⟩ := at_T101 HR0.out x5_1 p105 q105;obtain rfl : ad101 = ad105 := (by injection e105);have HR105_2 := aS hi105_2;have HC105_2 := aS hl105_2;clear hi105_2 hl105_2;replace p105 := eq_true p105;replace q105 := eq_true q105;have ea_ := Option.some.inj (hx101_2.symm.trans hx105_2);injection ea_ with ea_ en_ ec_;subst ea_;subst ec_;clear en_));go_ret;exact ⟨by first | rfl | (simp;done) | (simp [*];done),by repeat (first | exact Drawn0.refl _ | apply Drawn0.step)⟩
      ·
       rw [if_neg c6] at H;obtain ⟨c6b0,c6b1⟩ := eF c6;obtain rfl := Option.some.inj H;have p101 : 0 ≤ (x5_1 : Int) := oZ;have q101 : x5_1 < (l0.length : Int) := oZ;obtain ⟨ad101,A101_2,c101_2,e101,hx101_0,hx101_1,hx101_2,hx101_3,hl101_2,hi101_2⟩ := at_T101 HR0.out x5_1 p101 q101;cases e101
       have HR101_2 := aS hi101_2;have HC101_2 := aS hl101_2;clear hi101_2 hl101_2;replace p101 := eq_true p101;replace q101 := eq_true q101;have p102 : 0 ≤ (x5_1 : Int) := oZ;have q102 : x5_1 < (l0.length : Int) := oZ;obtain ⟨ad102,A102_2,c102_2,e102,hx102_0,hx102_1,hx102_2,hx102_3,hl102_2,hi102_2⟩ := at_T101 HR0.out x5_1 p102 q102;obtain rfl : ad101 = ad102 := (by injection e102);have HR102_2 := aS hi102_2;have HC102_2 := aS hl102_2;clear hi102_2 hl102_2;replace p102 := eq_true p102;replace q102 := eq_true q102;have ea_ := Option.some.inj (hx101_2.symm.trans hx102_2);injection ea_ with ea_ en_ ec_;subst ea_;subst ec_;clear en_;go_wp2;go_ret;exact ⟨by first | rfl | (simp;done) | (simp [*];done),by repeat (first | exact Drawn0.refl _ | apply Drawn0.step)⟩
     ·
      rw [if_neg c5] at H;obtain ⟨c5b0,c5b1⟩ := eF c5;obtain rfl := Option.some.inj H;have p101 : 0 ≤ (x5_1 : Int) := oZ;have q101 : x5_1 < (l0.length : Int) := oZ;obtain ⟨ad101,A101_2,c101_2,e101,hx101_0,hx101_1,hx101_2,hx101_3,hl101_2,hi101_2⟩ := at_T101 HR0.out x5_1 p101 q101;cases e101
      have HR101_2 := aS hi101_2;have HC101_2 := aS hl101_2;clear hi101_2 hl101_2;replace p101 := eq_true p101;replace q101 := eq_true q101;go_wp2;go_ret;exact ⟨by first | rfl | (simp;done) | (simp [*];done),by repeat (first | exact Drawn0.refl _ | apply Drawn0.step)⟩
    · rw [if_neg c4] at H;exact absurd H (by simp)
   · rw [if_neg c3] at H;have c3b0 := decide_eq_false c3;clear c3;obtain rfl := Option.some.inj H;go_wp2;go_ret;exact ⟨by first | rfl | (simp;done) | (simp [*];done),by repeat (first | exact Drawn0.refl _ | apply Drawn0.step)⟩

/-! ### laws_heldStore: function 40 -/
def laws_heldStore.f (k : Nat) (a0_0 : Int) (a0_1 : Int) (l0_2 : List (S101)) (a1 : Int) : Option (Int) := (laws_heldCachedS.f k l0_2 a1).bind fun t102 => (if t102 < 0 then (some (-1)) else (some t102))
theorem laws_heldStore.mono : ∀ a0 a1 a2 a3 k,LeO (laws_heldStore.f k a0 a1 a2 a3) (laws_heldStore.f (k + 1) a0 a1 a2 a3) := by
 intro a0 a1 a2 a3 k
 unfold laws_heldStore.f
 with_reducible repeat' first | exact laws_heldCachedS.mono _ _ _ | exact LeO.refl _ | exact LeO.none _ | refine LeO.ite ?_ ?_ | refine LeO.bind ?_ (fun _ => ?_)
set_option maxHeartbeats 8000000 in
set_option maxRecDepth 100000 in
theorem laws_heldStore.calls (k : Nat) (a0_0 : Int) (a0_1 : Int) (A0_2 : Option Addr) (c0_2 : Nat) (l0_2 : List (S101)) (a1 : Int) (r : Int) (w : World) (hr0_2 : Kd.C k101 w A0_2 l0_2.length l0_2) (hc0_2 : l0_2.length ≤ c0_2) (h : laws_heldStore.f k a0_0 a0_1 l0_2 a1 = some r) :
  Calls Try.prog 40 #[.agg #[.int .i64 a0_0,.int .i64 a0_1,.slice A0_2 l0_2.length c0_2],.int .i64 a1] w fun e w' => e = .returned (.int .i64 r) ∧ Below w.heap.size w w' := by
 have hu61 := Try.underlying61;have HR0_2 := aS hr0_2;have HC0_2 := aS hc0_2;clear hr0_2 hc0_2;have HB := aS (Below.refl w.heap.size w);unfold laws_heldStore.f at h;have H := h;clear h;obtain ⟨t102,A3,H⟩ := bA_ H;by_cases c4 : t102 < 0
 ·
  rw [if_pos c4] at H;have c4b0 := decide_eq_true c4;clear c4;obtain rfl := Option.some.inj H;go_enter Try.func40,Try.ntmps40;go_wp2_with (first | ((with_reducible refine gD 2 rfl ?_);refine bX (w:=w) #[.int .i64 a0_0,.int .i64 a0_1,.slice A0_2 l0_2.length c0_2] 61 ?_;clear HB;intro gb101 w5 HB BK101 GW101;refine zz3 BK101.out ?_;intros) | ((with_reducible refine gC 84 rfl ?_);refine gN Try.func84 #[.slice A0_2 l0_2.length c0_2,.int .i64 a1] ?_;(with_reducible refine (laws_heldCachedS.calls k _ _ l0_2 a1 t102 _ ?side1 ?side2 A3.out).mono ?_);(case side1 => exact oC HR0_2.out);(case side2 => exact HC0_2.out);rintro e w' ⟨rfl,⟨nd,rfl⟩⟩;refine ⟨_,rfl,?_⟩));go_ret;exact ⟨oE,oL⟩
 ·
  rw [if_neg c4] at H;have c4b0 := decide_eq_false c4;clear c4;obtain rfl := Option.some.inj H;go_enter Try.func40,Try.ntmps40;go_wp2_with (first | ((with_reducible refine gD 2 rfl ?_);refine bX (w:=w) #[.int .i64 a0_0,.int .i64 a0_1,.slice A0_2 l0_2.length c0_2] 61 ?_;clear HB;intro gb101 w7 HB BK101 GW101;refine zz3 BK101.out ?_;intros) | ((with_reducible refine gC 84 rfl ?_);refine gN Try.func84 #[.slice A0_2 l0_2.length c0_2,.int .i64 a1] ?_;(with_reducible refine (laws_heldCachedS.calls k _ _ l0_2 a1 t102 _ ?side1 ?side2 A3.out).mono ?_);(case side1 => exact oC HR0_2.out);(case side2 => exact HC0_2.out);rintro e w' ⟨rfl,⟨nd,rfl⟩⟩;refine ⟨_,rfl,?_⟩));go_ret;exact ⟨oE,oL⟩

/-! ### laws_heldUnit: function 41 -/
def laws_heldUnit.f (k : Nat) (a0_0 : Int) (a0_1 : Int) (l0_2 : List (S88)) (a1 : Int) : Option (Int) := (laws_heldMicroS.f k l0_2 a1).bind fun t102 => (if t102 < 0 then (some (-1)) else (some t102))
theorem laws_heldUnit.mono : ∀ a0 a1 a2 a3 k,LeO (laws_heldUnit.f k a0 a1 a2 a3) (laws_heldUnit.f (k + 1) a0 a1 a2 a3) := by
 intro a0 a1 a2 a3 k
 unfold laws_heldUnit.f
 with_reducible repeat' first | exact laws_heldMicroS.mono _ _ _ | exact LeO.refl _ | exact LeO.none _ | refine LeO.ite ?_ ?_ | refine LeO.bind ?_ (fun _ => ?_)
set_option maxHeartbeats 8000000 in
set_option maxRecDepth 100000 in
theorem laws_heldUnit.calls (k : Nat) (a0_0 : Int) (a0_1 : Int) (A0_2 : Option Addr) (c0_2 : Nat) (l0_2 : List (S88)) (a1 : Int) (r : Int) (w : World) (hr0_2 : Kd.C k88 w A0_2 l0_2.length l0_2) (hc0_2 : l0_2.length ≤ c0_2) (h : laws_heldUnit.f k a0_0 a0_1 l0_2 a1 = some r) :
  Calls Try.prog 41 #[.agg #[.int .i64 a0_0,.int .i64 a0_1,.slice A0_2 l0_2.length c0_2],.int .i64 a1] w fun e w' => e = .returned (.int .i64 r) ∧ Below w.heap.size w w' := by
 have hu41 := Try.underlying41;have HR0_2 := aS hr0_2;have HC0_2 := aS hc0_2;clear hr0_2 hc0_2;have HB := aS (Below.refl w.heap.size w);unfold laws_heldUnit.f at h;have H := h;clear h;obtain ⟨t102,A3,H⟩ := bA_ H;by_cases c4 : t102 < 0
 ·
  rw [if_pos c4] at H;have c4b0 := decide_eq_true c4;clear c4;obtain rfl := Option.some.inj H;go_enter Try.func41,Try.ntmps41;go_wp2_with (first | ((with_reducible refine gD 2 rfl ?_);refine bX (w:=w) #[.int .i64 a0_0,.int .i64 a0_1,.slice A0_2 l0_2.length c0_2] 41 ?_;clear HB;intro gb101 w5 HB BK101 GW101;refine zz3 BK101.out ?_;intros) | ((with_reducible refine gC 85 rfl ?_);refine gN Try.func85 #[.slice A0_2 l0_2.length c0_2,.int .i64 a1] ?_;(with_reducible refine (laws_heldMicroS.calls k _ _ l0_2 a1 t102 _ ?side1 ?side2 A3.out).mono ?_);(case side1 => exact oC HR0_2.out);(case side2 => exact HC0_2.out);rintro e w' ⟨rfl,⟨nd,rfl⟩⟩;refine ⟨_,rfl,?_⟩));go_ret;exact ⟨oE,oL⟩
 ·
  rw [if_neg c4] at H;have c4b0 := decide_eq_false c4;clear c4;obtain rfl := Option.some.inj H;go_enter Try.func41,Try.ntmps41;go_wp2_with (first | ((with_reducible refine gD 2 rfl ?_);refine bX (w:=w) #[.int .i64 a0_0,.int .i64 a0_1,.slice A0_2 l0_2.length c0_2] 41 ?_;clear HB;intro gb101 w7 HB BK101 GW101;refine zz3 BK101.out ?_;intros) | ((with_reducible refine gC 85 rfl ?_);refine gN Try.func85 #[.slice A0_2 l0_2.length c0_2,.int .i64 a1] ?_;(with_reducible refine (laws_heldMicroS.calls k _ _ l0_2 a1 t102 _ ?side1 ?side2 A3.out).mono ?_);(case side1 => exact oC HR0_2.out);(case side2 => exact HC0_2.out);rintro e w' ⟨rfl,⟨nd,rfl⟩⟩;refine ⟨_,rfl,?_⟩));go_ret;exact ⟨oE,oL⟩

end Go.Proofs.Ytjnifnhpnccpcaa.F
