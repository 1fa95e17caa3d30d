-- Made by this session's program gprint.py out of the translation. Not trusted: Lean checks it.
import Derived.Test.YtjnifnhpnccpcaaHx0
import Derived.Test.YtjnifnhpnccpcaaHx9
namespace Go.Proofs.Ytjnifnhpnccpcaa.H
open Go.RowKit Go.Proofs.YtjnifnhpnccpcaaW.PrintWords Go.Proofs.YtjnifnhpnccpcaaW.PrintLast Go.Proofs.YtjnifnhpnccpcaaW.PrintMore
attribute [local go_sem] max2_int min2_int max_two min_two max_three min_three max_four min_four   -- for this text's walks alone
set_option linter.unusedVariables false
set_option linter.unusedSimpArgs false

/-! ### laws_heldCachedS: function 84 -/
def laws_heldCachedS.l0 : Nat → List (S101) → Int → Int → Option (Int)
 | 0,_,_,_ => none
 | k + 1,x0,x1,x5 => if x5 < (x0.length : Int) then (if 0 ≤ x5 then (if ((rd_T101 x0 x5).f0.f0) = x1 then (if ((rd_T101 x0 x5).f0.f1) = (wrap64 (x1 + 1)) then ((laws_heldMicroS.f k ((rd_T101 x0 x5).f0.f2) (wrap64 ((wrap64 (x1 + 1)) + 1))).bind fun t104 => (if t104 < 0 then (some (-1)) else (if ((rd_T101 x0 x5).f1) = t104 then (laws_heldCachedS.l0 k x0 (wrap64 (t104 + 1)) (wrap64 (x5 + 1))) else (some (-1))))) else (some (-1))) else (some (-1))) else (none)) else (some x1)
def laws_heldCachedS.f (k : Nat) (l0 : List (S101)) (a1 : Int) : Option (Int) := laws_heldCachedS.l0 k l0 a1 0
theorem laws_heldCachedS.mono_l : ∀ k,(∀ y0 y1 y2,LeO (laws_heldCachedS.l0 k y0 y1 y2) (laws_heldCachedS.l0 (k + 1) y0 y1 y2))
 | 0 => fun _ _ _ r h => by simp [laws_heldCachedS.l0] at h
 | k + 1 => by
  have ih0 := laws_heldCachedS.mono_l k
  ·
   intro y0 y1 y2
   unfold laws_heldCachedS.l0
   with_reducible repeat' first | exact ih0 _ _ _ | exact laws_heldMicroS.mono _ _ _ | exact LeO.refl _ | exact LeO.none _ | refine LeO.ite ?_ ?_ | refine LeO.bind ?_ (fun _ => ?_)
theorem laws_heldCachedS.mono : ∀ a0 a1 k,LeO (laws_heldCachedS.f k a0 a1) (laws_heldCachedS.f (k + 1) a0 a1) := by
 intro a0 a1 k
 have ih0 := laws_heldCachedS.mono_l k
 unfold laws_heldCachedS.f
 with_reducible repeat' first | exact ih0 _ _ _ | exact laws_heldMicroS.mono _ _ _ | exact LeO.refl _ | exact LeO.none _ | refine LeO.ite ?_ ?_ | refine LeO.bind ?_ (fun _ => ?_)
set_option maxHeartbeats 8000000 in
set_option maxRecDepth 100000 in
theorem laws_heldCachedS.calls (k : Nat) (A0 : Option Addr) (c0 : Nat) (l0 : List (S101)) (a1 : Int) (r : Int) (w : World) (hr0 : Kd.C k101 w A0 l0.length l0) (hc0 : l0.length ≤ c0) (h : laws_heldCachedS.f k l0 a1 = some r) :
  Calls Try.prog 84 #[.slice A0 l0.length c0,.int .i64 a1] w fun e w' => e = .returned (.int .i64 r) ∧ Drawn0 w w' := by
 have HR0 := aS hr0;have HC0 := aS hc0;clear hr0 hc0;unfold laws_heldCachedS.f at h;have H := h;clear h;have H' := aS H;clear H;go_enter Try.func84,Try.ntmps84;go_wp2;go_loopg [1,5] k (fun kq v1 v5 w' => ∃ (x1_1 : Int) (x5_1 : Int),v1 = .int .i64 x1_1 ∧ v5 = .int .i64 x5_1 ∧ Aside0 (laws_heldCachedS.l0 kq l0 x1_1 x5_1 = some r) ∧ Aside0 (kq ≤ k) ∧ Drawn0 w w')
 case atStart => exact ⟨(a1),(0),oE,oE,H',⟨Nat.le_refl _⟩,by repeat (first | exact Drawn0.refl _ | apply Drawn0.step)⟩
 case round =>
  clear H';obtain ⟨x1_1,x5_1,rfl,rfl,HA,HK1,⟨m1,rfl⟩⟩ := hrel;cases gk with
  | zero => exact absurd HA.out (by simp [laws_heldCachedS.l0])
  | succ k1 =>
   have H := HA.out;clear HA;simp only [laws_heldCachedS.l0] at H;by_cases c3 : x5_1 < (l0.length : Int)
   ·
    rw [if_pos c3] at H;have c3b0 := decide_eq_true c3;clear c3;by_cases c4 : 0 ≤ x5_1
    ·
     rw [if_pos c4] at H;have c4b0 := decide_eq_true c4;clear c4;by_cases c5 : ((rd_T101 l0 x5_1).f0.f0) = x1_1
     ·
      rw [if_pos c5] at H;obtain ⟨c5b0,c5b1⟩ := eT c5;clear c5;by_cases c6 : ((rd_T101 l0 x5_1).f0.f1) = (wrap64 (x1_1 + 1))
      ·
       rw [if_pos c6] at H;obtain ⟨c6b0,c6b1⟩ := eT c6;clear c6;obtain ⟨t104,A7,H⟩ := bA_ H;by_cases c8 : t104 < 0
       ·
        rw [if_pos c8] at H;have c8b0 := decide_eq_true c8;clear c8;obtain rfl := Option.some.inj H;have p101 : 0 ≤ (x5_1 : Int) := oZ;have q101 : x5_1 < (l0.length : Int) := oZ;obtain ⟨ad101,A101_2,c101_2,e101,hx101_0,hx101_1,hx101_2,hx101_3,hl101_2,hi101_2⟩ := at_T101 HR0.out x5_1 p101 q101;cases e101
        have HR101_2 := aS hi101_2;have HC101_2 := aS hl101_2;clear hi101_2 hl101_2;replace p101 := eq_true p101;replace q101 := eq_true q101;have p102 : 0 ≤ (x5_1 : Int) := oZ;have q102 : x5_1 < (l0.length : Int) := oZ;obtain ⟨ad102,A102_2,c102_2,e102,hx102_0,hx102_1,hx102_2,hx102_3,hl102_2,hi102_2⟩ := at_T101 HR0.out x5_1 p102 q102;obtain rfl : ad101 = ad102 := (by injection e102);have HR102_2 := aS hi102_2;have HC102_2 := aS hl102_2;clear hi102_2 hl102_2;replace p102 := eq_true p102;replace q102 := eq_true q102;have ea_ := Option.some.inj (hx101_2.symm.trans hx102_2);injection ea_ with ea_ en_ ec_;subst ea_;subst ec_;clear en_;have p103 : 0 ≤ (x5_1 : Int) := oZ;have q103 : x5_1 < (l0.length : Int) := oZ;obtain ⟨ad103,A103_2,c103_2,e103,hx103_0,hx103_1,hx103_2,hx103_3,hl103_2,hi103_2⟩ := at_T101 HR0.out x5_1 p103 q103;obtain rfl : ad101 = ad103 := (by injection e103);have HR103_2 := aS hi103_2;have HC103_2 := aS hl103_2;clear hi103_2 hl103_2;replace p103 := eq_true p103;replace q103 := eq_true q103;have ea_ := Option.some.inj (hx101_2.symm.trans hx103_2);injection ea_ with ea_ en_ ec_;subst ea_;subst ec_;clear en_;go_wp2_with (first | ((with_reducible refine gC 85 rfl ?_);refine gN Try.func85 #[.slice A101_2 ((rd_T101 l0 x5_1).f0.f2).length c101_2,.int .i64 (wrap64 ((wrap64 (x1_1 + 1)) + 1))] ?_;(with_reducible refine (laws_heldMicroS.calls k1 _ _ ((rd_T101 l0 x5_1).f0.f2) (wrap64 ((wrap64 (x1_1 + 1)) + 1)) t104 _ ?side1 ?side2 A7.out).mono ?_);(case side1 => repeat (first | exact HR103_2.out | (with_reducible refine Kd.C_alloc ?_ _) | (with_reducible refine Kd.C_drewN ?_ _) | (with_reducible refine Kd.C_drew ?_)));(case side2 => exact HC103_2.out);rintro e w' ⟨rfl,⟨nd,rfl⟩⟩;refine ⟨_,rfl,?_⟩));go_ret;exact ⟨by first | rfl | (simp;done) | (simp [*];done),by repeat (first | exact Drawn0.refl _ | apply Drawn0.step)⟩
       ·
        rw [if_neg c8] at H;have c8b0 := decide_eq_false c8;clear c8;by_cases c9 : ((rd_T101 l0 x5_1).f1) = t104
        ·
         rw [if_pos c9] at H;obtain ⟨c9b0,c9b1⟩ := eT c9;clear c9;have H' := aS H;clear H;have p101 : 0 ≤ (x5_1 : Int) := oZ;have q101 : x5_1 < (l0.length : Int) := oZ;obtain ⟨ad101,A101_2,c101_2,e101,hx101_0,hx101_1,hx101_2,hx101_3,hl101_2,hi101_2⟩ := at_T101 HR0.out x5_1 p101 q101;cases e101
         have HR101_2 := aS hi101_2;have HC101_2 := aS hl101_2;clear hi101_2 hl101_2;replace p101 := eq_true p101;replace q101 := eq_true q101;have p102 : 0 ≤ (x5_1 : Int) := oZ;have q102 : x5_1 < (l0.length : Int) := oZ;obtain ⟨ad102,A102_2,c102_2,e102,hx102_0,hx102_1,hx102_2,hx102_3,hl102_2,hi102_2⟩ := at_T101 HR0.out x5_1 p102 q102;obtain rfl : ad101 = ad102 := (by injection e102);have HR102_2 := aS hi102_2;have HC102_2 := aS hl102_2;clear hi102_2 hl102_2;replace p102 := eq_true p102;replace q102 := eq_true q102;have ea_ := Option.some.inj (hx101_2.symm.trans hx102_2);injection ea_ with ea_ en_ ec_;subst ea_;subst ec_;clear en_;have p103 : 0 ≤ (x5_1 : Int) := oZ;have q103 : x5_1 < (l0.length : Int) := oZ;obtain ⟨ad103,A103_2,c103_2,e103,hx103_0,hx103_1,hx103_2,hx103_3,hl103_2,hi103_2⟩ := at_T101 HR0.out x5_1 p103 q103;obtain rfl : ad101 = ad103 := (by injection e103);have HR103_2 := aS hi103_2;have HC103_2 := aS hl103_2;clear hi103_2 hl103_2;replace p103 := eq_true p103;replace q103 := eq_true q103;have ea_ := Option.some.inj (hx101_2.symm.trans hx103_2);injection ea_ with ea_ en_ ec_;subst ea_;subst ec_;clear en_;go_wp2_with (first | ((with_reducible refine gC 85 rfl ?_);refine gN Try.func85 #[.slice A101_2 ((rd_T101 l0 x5_1).f0.f2).length c101_2,.int .i64 (wrap64 ((wrap64 (x1_1 + 1)) + 1))] ?_;(with_reducible refine (laws_heldMicroS.calls k1 _ _ ((rd_T101 l0 x5_1).f0.f2) (wrap64 ((wrap64 (x1_1 + 1)) + 1)) t104 _ ?side1 ?side2 A7.out).mono ?_);(case side1 => repeat (first | exact HR103_2.out | (with_reducible refine Kd.C_alloc ?_ _) | (with_reducible refine Kd.C_drewN ?_ _) | (with_reducible refine Kd.C_drew ?_)));(case side2 => exact HC103_2.out);rintro e w' ⟨rfl,⟨nd,rfl⟩⟩;refine ⟨_,rfl,?_⟩;have p105 : 0 ≤ (x5_1 : Int) := oZ;have q105 : x5_1 < (l0.length : Int) := oZ;obtain ⟨ad105,A105_2,c105_2,e105,hx105_0,hx105_1,hx105_2,hx105_3,hl105_2,hi105_2⟩ := at_T101 HR0.out x5_1 p105 q105;obtain rfl : ad101 = ad105 := (by injection e105);have HR105_2 := aS hi105_2;have HC105_2 := aS hl105_2;clear hi105_2 hl105_2;replace p105 := eq_true p105;replace q105 := eq_true q105;have ea_ := Option.some.inj (hx101_2.symm.trans hx105_2);injection ea_ with ea_ en_ ec_;subst ea_;subst ec_;clear en_));go_roundg k1;case measure => have := HK1.out;omega
         case rel => exact ⟨(wrap64 (t104 + 1)),(wrap64 (x5_1 + 1)),oE,oE,H',⟨by have := HK1.out;omega⟩,by repeat (first | exact Drawn0.refl _ | apply Drawn0.step)⟩
        ·
         rw [if_neg c9] at H;obtain ⟨c9b0,c9b1⟩ := eF c9;obtain rfl := Option.some.inj H;have p101 : 0 ≤ (x5_1 : Int) := oZ;have q101 : x5_1 < (l0.length : Int) := oZ;obtain ⟨ad101,A101_2,c101_2,e101,hx101_0,hx101_1,hx101_2,hx101_3,hl101_2,hi101_2⟩ := at_T101 HR0.out x5_1 p101 q101;cases e101
         have HR101_2 := aS hi101_2;have HC101_2 := aS hl101_2;clear hi101_2 hl101_2;replace p101 := eq_true p101;replace q101 := eq_true q101;have p102 : 0 ≤ (x5_1 : Int) := oZ;have q102 : x5_1 < (l0.length : Int) := oZ;obtain ⟨ad102,A102_2,c102_2,e102,hx102_0,hx102_1,hx102_2,hx102_3,hl102_2,hi102_2⟩ := at_T101 HR0.out x5_1 p102 q102;obtain rfl : ad101 = ad102 := (by injection e102);have HR102_2 := aS hi102_2;have HC102_2 := aS hl102_2;clear hi102_2 hl102_2;replace p102 := eq_true p102;replace q102 := eq_true q102;have ea_ := Option.some.inj (hx101_2.symm.trans hx102_2);injection ea_ with ea_ en_ ec_;subst ea_;subst ec_;clear en_;have p103 : 0 ≤ (x5_1 : Int) := oZ;have q103 : x5_1 < (l0.length : Int) := oZ;obtain ⟨ad103,A103_2,c103_2,e103,hx103_0,hx103_1,hx103_2,hx103_3,hl103_2,hi103_2⟩ := at_T101 HR0.out x5_1 p103 q103;obtain rfl : ad101 = ad103 := (by injection e103);have HR103_2 := aS hi103_2;have HC103_2 := aS hl103_2;clear hi103_2 hl103_2;replace p103 := eq_true p103;replace q103 := eq_true q103;have ea_ := Option.some.inj (hx101_2.symm.trans hx103_2);injection ea_ with ea_ en_ ec_;subst ea_;subst ec_;clear en_;go_wp2_with (first | ((with_reducible refine gC 85 rfl ?_);refine gN Try.func85 #[.slice A101_2 ((rd_T101 l0 x5_1).f0.f2).length c101_2,.int .i64 (wrap64 ((wrap64 (x1_1 + 1)) + 1))] ?_;(with_reducible refine (laws_heldMicroS.calls k1 _ _ ((rd_T101 l0 x5_1).f0.f2) (wrap64 ((wrap64 (x1_1 + 1)) + 1)) t104 _ ?side1 ?side2 A7.out).mono ?_);(case side1 => repeat (first | exact HR103_2.out | (with_reducible refine Kd.C_alloc ?_ _) | (with_reducible refine Kd.C_drewN ?_ _) | (with_reducible refine Kd.C_drew ?_)));(case side2 => exact HC103_2.out);rintro e w' ⟨rfl,⟨nd,rfl⟩⟩;refine ⟨_,rfl,?_⟩;have p105 : 0 ≤ (x5_1 : Int) := oZ;have q105 : x5_1 < (l0.length : Int) := oZ;obtain ⟨ad105,A105_2,c105_2,e105,hx105_0,hx105_1,hx105_2,hx105_3,hl105_2,hi105_2⟩ := at_T101 HR0.out x5_1 p105 q105;obtain rfl : ad101 = ad105 := (by injection e105);have HR105_2 := aS hi105_2;have HC105_2 := aS hl105_2;clear hi105_2 hl105_2;replace p105 := eq_true p105;replace q105 := eq_true q105;have ea_ := Option.some.inj (hx101_2.symm.trans hx105_2);injection ea_ with ea_ en_ ec_;subst ea_;subst ec_;clear en_));go_ret;exact ⟨by first | rfl | (simp;done) | (simp [*];done),by repeat (first | exact Drawn0.refl _ | apply Drawn0.step)⟩
      ·
       rw [if_neg c6] at H;obtain ⟨c6b0,c6b1⟩ := eF c6;obtain rfl := Option.some.inj H;have p101 : 0 ≤ (x5_1 : Int) := oZ;have q101 : x5_1 < (l0.length : Int) := oZ;obtain ⟨ad101,A101_2,c101_2,e101,hx101_0,hx101_1,hx101_2,hx101_3,hl101_2,hi101_2⟩ := at_T101 HR0.out x5_1 p101 q101;cases e101
       have HR101_2 := aS hi101_2;have HC101_2 := aS hl101_2;clear hi101_2 hl101_2;replace p101 := eq_true p101;replace q101 := eq_true q101;have p102 : 0 ≤ (x5_1 : Int) := oZ;have q102 : x5_1 < (l0.length : Int) := oZ;obtain ⟨ad102,A102_2,c102_2,e102,hx102_0,hx102_1,hx102_2,hx102_3,hl102_2,hi102_2⟩ := at_T101 HR0.out x5_1 p102 q102;obtain rfl : ad101 = ad102 := (by injection e102);have HR102_2 := aS hi102_2;have HC102_2 := aS hl102_2;clear hi102_2 hl102_2;replace p102 := eq_true p102;replace q102 := eq_true q102;have ea_ := Option.some.inj (hx101_2.symm.trans hx102_2);injection ea_ with ea_ en_ ec_;subst ea_;subst ec_;clear en_;go_wp2;go_ret;exact ⟨by first | rfl | (simp;done) | (simp [*];done),by repeat (first | exact Drawn0.refl _ | apply Drawn0.step)⟩
     ·
      rw [if_neg c5] at H;obtain ⟨c5b0,c5b1⟩ := eF c5;obtain rfl := Option.some.inj H;have p101 : 0 ≤ (x5_1 : Int) := oZ;have q101 : x5_1 < (l0.length : Int) := oZ;obtain ⟨ad101,A101_2,c101_2,e101,hx101_0,hx101_1,hx101_2,hx101_3,hl101_2,hi101_2⟩ := at_T101 HR0.out x5_1 p101 q101;cases e101
      have HR101_2 := aS hi101_2;have HC101_2 := aS hl101_2;clear hi101_2 hl101_2;replace p101 := eq_true p101;replace q101 := eq_true q101;go_wp2;go_ret;exact ⟨by first | rfl | (simp;done) | (simp [*];done),by repeat (first | exact Drawn0.refl _ | apply Drawn0.step)⟩
    · rw [if_neg c4] at H;exact absurd H (by simp)
   · rw [if_neg c3] at H;have c3b0 := decide_eq_false c3;clear c3;obtain rfl := Option.some.inj H;go_wp2;go_ret;exact ⟨by first | rfl | (simp;done) | (simp [*];done),by repeat (first | exact Drawn0.refl _ | apply Drawn0.step)⟩

/-! ### laws_heldStore: function 40 -/
def laws_heldStore.f (k : Nat) (a0_0 : Int) (a0_1 : Int) (l0_2 : List (S101)) (a1 : Int) : Option (Int) := (laws_heldCachedS.f k l0_2 a1).bind fun t102 => (if t102 < 0 then (some (-1)) else (some t102))
theorem laws_heldStore.mono : ∀ a0 a1 a2 a3 k,LeO (laws_heldStore.f k a0 a1 a2 a3) (laws_heldStore.f (k + 1) a0 a1 a2 a3) := by
 intro a0 a1 a2 a3 k
 unfold laws_heldStore.f
 with_reducible repeat' first | exact laws_heldCachedS.mono _ _ _ | exact LeO.refl _ | exact LeO.none _ | refine LeO.ite ?_ ?_ | refine LeO.bind ?_ (fun _ => ?_)
set_option maxHeartbeats 8000000 in
set_option maxRecDepth 100000 in
theorem laws_heldStore.calls (k : Nat) (a0_0 : Int) (a0_1 : Int) (A0_2 : Option Addr) (c0_2 : Nat) (l0_2 : List (S101)) (a1 : Int) (r : Int) (w : World) (hr0_2 : Kd.C k101 w A0_2 l0_2.length l0_2) (hc0_2 : l0_2.length ≤ c0_2) (h : laws_heldStore.f k a0_0 a0_1 l0_2 a1 = some r) :
  Calls Try.prog 40 #[.agg #[.int .i64 a0_0,.int .i64 a0_1,.slice A0_2 l0_2.length c0_2],.int .i64 a1] w fun e w' => e = .returned (.int .i64 r) ∧ Below w.heap.size w w' := by
 have hu61 := Try.underlying61;have HR0_2 := aS hr0_2;have HC0_2 := aS hc0_2;clear hr0_2 hc0_2;have HB := aS (Below.refl w.heap.size w);unfold laws_heldStore.f at h;have H := h;clear h;obtain ⟨t102,A3,H⟩ := bA_ H;by_cases c4 : t102 < 0
 ·
  rw [if_pos c4] at H;have c4b0 := decide_eq_true c4;clear c4;obtain rfl := Option.some.inj H;go_enter Try.func40,Try.ntmps40;go_wp2_with (first | ((with_reducible refine gD 2 rfl ?_);refine bX (w:=w) #[.int .i64 a0_0,.int .i64 a0_1,.slice A0_2 l0_2.length c0_2] 61 ?_;clear HB;intro gb101 w5 HB BK101 GW101;refine zz3 BK101.out ?_;intros) | ((with_reducible refine gC 84 rfl ?_);refine gN Try.func84 #[.slice A0_2 l0_2.length c0_2,.int .i64 a1] ?_;(with_reducible refine (laws_heldCachedS.calls k _ _ l0_2 a1 t102 _ ?side1 ?side2 A3.out).mono ?_);(case side1 => exact oC HR0_2.out);(case side2 => exact HC0_2.out);rintro e w' ⟨rfl,⟨nd,rfl⟩⟩;refine ⟨_,rfl,?_⟩));go_ret;exact ⟨oE,oL⟩
 ·
  rw [if_neg c4] at H;have c4b0 := decide_eq_false c4;clear c4;obtain rfl := Option.some.inj H;go_enter Try.func40,Try.ntmps40;go_wp2_with (first | ((with_reducible refine gD 2 rfl ?_);refine bX (w:=w) #[.int .i64 a0_0,.int .i64 a0_1,.slice A0_2 l0_2.length c0_2] 61 ?_;clear HB;intro gb101 w7 HB BK101 GW101;refine zz3 BK101.out ?_;intros) | ((with_reducible refine gC 84 rfl ?_);refine gN Try.func84 #[.slice A0_2 l0_2.length c0_2,.int .i64 a1] ?_;(with_reducible refine (laws_heldCachedS.calls k _ _ l0_2 a1 t102 _ ?side1 ?side2 A3.out).mono ?_);(case side1 => exact oC HR0_2.out);(case side2 => exact HC0_2.out);rintro e w' ⟨rfl,⟨nd,rfl⟩⟩;refine ⟨_,rfl,?_⟩));go_ret;exact ⟨oE,oL⟩

/-! ### spec_l14Straight: function 55 -/
def spec_l14Straight.j0 : Nat → Int → Bool → Int → Int → Int → Int → Int → Int → Int → Option (Bool)
 | 0,_,_,_,_,_,_,_,_,_ => none
 | k + 1,x4,x5,x102000,x102001,x102002,x102003,x102004,x102005,x102006 => if x5 = true then (some false) else (if x4 = 15 then (if x102006 = 2 then (some true) else (if x102006 = 5 then (some true) else (some (x102006 == 6)))) else (if x4 = 19 then (some (x102006 != 0)) else (some true)))
def spec_l14Straight.f (k : Nat) (a0_0 : Int) (a0_1 : Int) (a0_2 : Int) (a0_3 : Int) (a0_4 : Int) (a0_5 : Int) (a0_6 : Int) : Option (Bool) := if a0_0 = 13 then (spec_l14Straight.j0 k a0_0 (a0_0 == 13) a0_0 a0_1 a0_2 a0_3 a0_4 a0_5 a0_6) else (spec_l14Straight.j0 k a0_0 (a0_0 == 14) a0_0 a0_1 a0_2 a0_3 a0_4 a0_5 a0_6)
theorem spec_l14Straight.mono_l : ∀ k,(∀ y0 y1 y2 y3 y4 y5 y6 y7 y8,LeO (spec_l14Straight.j0 k y0 y1 y2 y3 y4 y5 y6 y7 y8) (spec_l14Straight.j0 (k + 1) y0 y1 y2 y3 y4 y5 y6 y7 y8))
 | 0 => fun _ _ _ _ _ _ _ _ _ r h => by simp [spec_l14Straight.j0] at h
 | k + 1 => by
  have ih0 := spec_l14Straight.mono_l k
  ·
   intro y0 y1 y2 y3 y4 y5 y6 y7 y8
   unfold spec_l14Straight.j0
   with_reducible repeat' first | exact ih0 _ _ _ _ _ _ _ _ _ | exact LeO.refl _ | exact LeO.none _ | refine LeO.ite ?_ ?_ | refine LeO.bind ?_ (fun _ => ?_)
theorem spec_l14Straight.mono : ∀ a0 a1 a2 a3 a4 a5 a6 k,LeO (spec_l14Straight.f k a0 a1 a2 a3 a4 a5 a6) (spec_l14Straight.f (k + 1) a0 a1 a2 a3 a4 a5 a6) := by
 intro a0 a1 a2 a3 a4 a5 a6 k
 have ih0 := spec_l14Straight.mono_l k
 unfold spec_l14Straight.f
 with_reducible repeat' first | exact ih0 _ _ _ _ _ _ _ _ _ | exact LeO.refl _ | exact LeO.none _ | refine LeO.ite ?_ ?_ | refine LeO.bind ?_ (fun _ => ?_)
set_option maxHeartbeats 8000000 in
set_option maxRecDepth 100000 in
theorem spec_l14Straight.calls (k : Nat) (a0_0 : Int) (a0_1 : Int) (a0_2 : Int) (a0_3 : Int) (a0_4 : Int) (a0_5 : Int) (a0_6 : Int) (r : Bool) (w : World) (h : spec_l14Straight.f k a0_0 a0_1 a0_2 a0_3 a0_4 a0_5 a0_6 = some r) :
  Calls Try.prog 55 #[.agg #[.int .i64 a0_0,.int .i64 a0_1,.int .i64 a0_2,.int .i64 a0_3,.int .i64 a0_4,.int .i64 a0_5,.int .i64 a0_6]] w fun e w' => e = .returned (.bool r) ∧ Below w.heap.size w w' := by
 have hu77 := Try.underlying77;have HB := aS (Below.refl w.heap.size w);unfold spec_l14Straight.f at h;have H := h;clear h;have HC2 := aS H;clear H;go_enter Try.func55,Try.ntmps55;go_upto_if 5 with (first | ((with_reducible refine gD 1 rfl ?_);refine bX (w:=w) #[.int .i64 a0_0,.int .i64 a0_1,.int .i64 a0_2,.int .i64 a0_3,.int .i64 a0_4,.int .i64 a0_5,.int .i64 a0_6] 77 ?_;clear HB;intro gb101 w3 HB BK101 GW101;refine zz7 BK101.out ?_;intros));(try simp only [Act.put,List.setIfInBounds_toArray,List.set_cons_zero,List.set_cons_succ]);go_cut [5] (fun v5 wc => ∃ (kq : Nat) (x5_1 : Bool),v5 = .bool x5_1 ∧ Aside0 (spec_l14Straight.j0 kq a0_0 x5_1 a0_0 a0_1 a0_2 a0_3 a0_4 a0_5 a0_6 = some r) ∧ Aside0 (kq ≤ k) ∧ Aside0 (wc.heap[gb101]? = some (.cells #[.int .i64 a0_0,.int .i64 a0_1,.int .i64 a0_2,.int .i64 a0_3,.int .i64 a0_4,.int .i64 a0_5,.int .i64 a0_6] 77 (0,0))) ∧ Aside0 (Below w.heap.size w wc))
 case first =>
  have H := HC2.out;clear HC2;by_cases c5 : a0_0 = 13;{rw [if_pos c5] at H;obtain ⟨c5b0,c5b1⟩ := eT c5;clear c5;(first | rw [c5b0] | (simp only [i64_w,i32_w];rw [c5b0]) | skip);have H' := aS H;clear H;go_wp2;go_meet;case rel => exact ⟨_,((a0_0 == 13)),oE,H',⟨by first | omega | exact Nat.le_refl _⟩,⟨oB BK101.out⟩,⟨oL⟩⟩};{rw [if_neg c5] at H;obtain ⟨c5b0,c5b1⟩ := eF c5;(first | rw [c5b0] | (simp only [i64_w,i32_w];rw [c5b0]) | skip);have H' := aS H;clear H;go_wp2;go_meet;case rel => exact ⟨_,((a0_0 == 14)),oE,H',⟨by first | omega | exact Nat.le_refl _⟩,⟨oB BK101.out⟩,⟨oL⟩⟩}
 case rest =>
  clear HC2;obtain ⟨kq,x5_1,rfl,HA,HJ1,BK101,HB⟩ := hcut;cases kq with
  | zero => exact absurd HA.out (by simp [spec_l14Straight.j0])
  | succ kj1 =>
   have H := HA.out;clear HA;simp only [spec_l14Straight.j0] at H;by_cases c6 : x5_1 = true;{subst c6;replace H := iT H;obtain rfl := Option.some.inj H;go_wp2;go_ret;exact ⟨oE,oL⟩}
   ·
    replace c6 := Bool.eq_false_iff.mpr c6;subst c6;replace H := iF H;by_cases c7 : a0_0 = 15
    ·
     rw [if_pos c7] at H;obtain ⟨c7b0,c7b1⟩ := eT c7;clear c7;by_cases c8 : a0_6 = 2;{rw [if_pos c8] at H;obtain ⟨c8b0,c8b1⟩ := eT c8;clear c8;obtain rfl := Option.some.inj H;refine zz7 BK101.out ?_;intros;go_wp2;go_ret;exact ⟨oE,oL⟩}
     ·
      rw [if_neg c8] at H;obtain ⟨c8b0,c8b1⟩ := eF c8;by_cases c10 : a0_6 = 5;{rw [if_pos c10] at H;obtain ⟨c10b0,c10b1⟩ := eT c10;clear c10;obtain rfl := Option.some.inj H;refine zz7 BK101.out ?_;intros;go_wp2;go_ret;exact ⟨oE,oL⟩};{rw [if_neg c10] at H;obtain ⟨c10b0,c10b1⟩ := eF c10;obtain rfl := Option.some.inj H;refine zz7 BK101.out ?_;intros;go_wp2;go_ret;exact ⟨oE,oL⟩}
    ·
     rw [if_neg c7] at H;obtain ⟨c7b0,c7b1⟩ := eF c7;by_cases c13 : a0_0 = 19;{rw [if_pos c13] at H;obtain ⟨c13b0,c13b1⟩ := eT c13;clear c13;obtain rfl := Option.some.inj H;refine zz7 BK101.out ?_;intros;go_wp2;go_ret;exact ⟨oE,oL⟩};{rw [if_neg c13] at H;obtain ⟨c13b0,c13b1⟩ := eF c13;obtain rfl := Option.some.inj H;go_wp2;go_ret;exact ⟨oE,oL⟩}

/-! ### spec_l15List: function 51 -/
def spec_l15List.l0 : Nat → List (S77) → Int → List (S88) → Int → Int → Option ((List (S77)) × Int)
 | 0,_,_,_,_,_ => none
 | k + 1,x4,x5,x9,x10,x11 => if x11 < x10 then (if 0 ≤ x11 then (if x11 < (x9.length : Int) then (if x4.length < 2513169434916 then ((some (x4 ++ [(⟨(rd_T88 x9 x11).f0.f0,(rd_T88 x9 x11).f0.f1,(rd_T88 x9 x11).f0.f2,(⟨(rd_T88 x9 x11).f0.f3.f0,(rd_T88 x9 x11).f0.f3.f1,(rd_T88 x9 x11).f0.f3.f2⟩ : S75),(rd_T88 x9 x11).f0.f4⟩ : S77)] : List (S77))).bind fun y104 => ((spec_l14Straight.f k ((rd_T88 x9 x11).f0.f0) ((rd_T88 x9 x11).f0.f1) ((rd_T88 x9 x11).f0.f2) ((rd_T88 x9 x11).f0.f3.f0) ((rd_T88 x9 x11).f0.f3.f1) ((rd_T88 x9 x11).f0.f3.f2) ((rd_T88 x9 x11).f0.f4)).bind fun t107 => (if t107 = true then (spec_l15List.l0 k y104 (wrap64 (x5 + 1)) x9 x10 (wrap64 (x11 + 1))) else (spec_l15List.l0 k y104 x5 x9 x10 (wrap64 (x11 + 1)))))) else (none)) else (none)) else (none)) else (some (x4,x5))
def spec_l15List.f (k : Nat) (a0_0 : Int) (a0_1 : Int) (l0_2 : List (S88)) : Option ((List (S77)) × Int) := spec_l15List.l0 k ([] : List (S77)) 0 l0_2 (l0_2.length : Int) 0
theorem spec_l15List.mono_l : ∀ k,(∀ y0 y1 y2 y3 y4,LeO (spec_l15List.l0 k y0 y1 y2 y3 y4) (spec_l15List.l0 (k + 1) y0 y1 y2 y3 y4))
 | 0 => fun _ _ _ _ _ r h => by simp [spec_l15List.l0] at h
 | k + 1 => by
  have ih0 := spec_l15List.mono_l k
  ·
   intro y0 y1 y2 y3 y4
   unfold spec_l15List.l0
   with_reducible repeat' first | exact ih0 _ _ _ _ _ | exact spec_l14Straight.mono _ _ _ _ _ _ _ _ | exact LeO.refl _ | exact LeO.none _ | refine LeO.ite ?_ ?_ | refine LeO.bind ?_ (fun _ => ?_)
theorem spec_l15List.mono : ∀ a0 a1 a2 k,LeO (spec_l15List.f k a0 a1 a2) (spec_l15List.f (k + 1) a0 a1 a2) := by
 intro a0 a1 a2 k
 have ih0 := spec_l15List.mono_l k
 unfold spec_l15List.f
 with_reducible repeat' first | exact ih0 _ _ _ _ _ | exact spec_l14Straight.mono _ _ _ _ _ _ _ _ | exact LeO.refl _ | exact LeO.none _ | refine LeO.ite ?_ ?_ | refine LeO.bind ?_ (fun _ => ?_)
set_option maxHeartbeats 8000000 in
set_option maxRecDepth 100000 in
theorem spec_l15List.calls (k : Nat) (a0_0 : Int) (a0_1 : Int) (A0_2 : Option Addr) (c0_2 : Nat) (l0_2 : List (S88)) (r1 : List (S77)) (r2 : Int) (w : World) (hr0_2 : Kd.C k88 w A0_2 l0_2.length l0_2) (hc0_2 : l0_2.length ≤ c0_2) (h : spec_l15List.f k a0_0 a0_1 l0_2 = some (r1,r2)) :
  Calls Try.prog 51 #[.agg #[.int .i64 a0_0,.int .i64 a0_1,.slice A0_2 l0_2.length c0_2]] w fun e w' => ∃ v0_ : Value,e = .returned (.tuple #[v0_,.int .i64 r2]) ∧ Kd.R k77 77 w' w.heap.size (fun _ => True) v0_ r1 ∧ Below w.heap.size w w' := by
 have hu41 := Try.underlying41;have hu88 := Try.underlying88;have hu77 := Try.underlying77;have HR0_2 := aS hr0_2;have HC0_2 := aS hc0_2;clear hr0_2 hc0_2;have HB := aS (Below.refl w.heap.size w);unfold spec_l15List.f at h;have H := h;clear h;have H' := aS H;clear H;go_enter Try.func51,Try.ntmps51;go_wp2_with (first | ((with_reducible refine gD 1 rfl ?_);refine bX (w:=w) #[.int .i64 a0_0,.int .i64 a0_1,.slice A0_2 l0_2.length c0_2] 41 ?_;clear HB;intro gb101 w2 HB BK101 GW101;refine zz3 BK101.out ?_;intros));go_loopg [4,5,11] k (fun kq v4 v5 v11 w' => ∃ (x4_1 : List (S77)) (x5_1 : Int) (x11_1 : Int),v5 = .int .i64 x5_1 ∧ v11 = .int .i64 x11_1 ∧ Aside0 (spec_l15List.l0 kq x4_1 x5_1 l0_2 (l0_2.length : Int) x11_1 = some (r1,r2)) ∧ Aside0 (kq ≤ k) ∧ Aside0 (Kd.R k77 77 w' w.heap.size (fun _ => True) v4 x4_1) ∧ Aside0 (w'.heap[gb101]? = some (.cells #[.int .i64 a0_0,.int .i64 a0_1,(.slice A0_2 l0_2.length c0_2)] 41 (0,0))) ∧ Aside0 (Below w.heap.size w w'))
 case atStart => exact ⟨(([] : List (S77))),(0),(0),oE,oE,H',⟨Nat.le_refl _⟩,⟨by first | exact Kd.R_nil _ _ _ _ _ | exact Kd.N_nil _ _ _ _ _ | exact Kd.V_nil _ _ _ _ _ | exact Kd.Q_nil _ _ _ _ _ | exact Kd.S_nil _ _ _ _ _⟩,⟨oB BK101.out⟩,⟨oL⟩⟩
 case round =>
  clear H';obtain ⟨x4_1,x5_1,x11_1,rfl,rfl,HA,HK1,HO_4,BK101,HB⟩ := hrel;cases gk with
  | zero => exact absurd HA.out (by simp [spec_l15List.l0])
  | succ k1 =>
   have H := HA.out;clear HA;simp only [spec_l15List.l0] at H;by_cases c4 : x11_1 < (l0_2.length : Int)
   ·
    rw [if_pos c4] at H;have c4b0 := decide_eq_true c4;clear c4;by_cases c5 : 0 ≤ x11_1
    ·
     rw [if_pos c5] at H;have c5b0 := decide_eq_true c5;clear c5;by_cases c6 : x11_1 < (l0_2.length : Int)
     ·
      rw [if_pos c6] at H;have c6b0 := decide_eq_true c6;clear c6;by_cases c7 : x4_1.length < 2513169434916
      ·
       rw [if_pos c7] at H;have LMc7 := aS c7;clear c7;obtain ⟨y104,hy104,H⟩ := bS H
       have Ny104 := aS hy104;clear hy104;obtain ⟨t107,A8,H⟩ := bA_ H;by_cases c9 : t107 = true
       ·
        subst c9;replace H := iT H;have H' := aS H;clear H;have p102 : 0 ≤ (x11_1 : Int) := oZ;have q102 : x11_1 < (l0_2.length : Int) := oZ;obtain ⟨ad102,e102,hx102_0,hx102_1,hx102_2,hx102_3,hx102_4,hx102_5,hx102_6,hx102_7,hx102_8⟩ := at_T88 HR0_2.out x11_1 p102 q102;cases e102
        replace hx102_0 := oJ HB hx102_0;replace hx102_1 := oJ HB hx102_1;replace hx102_2 := oJ HB hx102_2;replace hx102_3 := oJ HB hx102_3;replace hx102_4 := oJ HB hx102_4;replace hx102_5 := oJ HB hx102_5;replace hx102_6 := oJ HB hx102_6;replace hx102_7 := oJ HB hx102_7;replace hx102_8 := oJ HB hx102_8;replace p102 := eq_true p102;replace q102 := eq_true q102;go_wp2_with (first | ((with_reducible refine gD 7 rfl ?_);refine bY #[.int .i64 0,.int .i64 0,.int .i64 0,.int .i64 0,.int .i64 0,.int .i64 0,.int .i64 0,.int .i64 0,.bool false] 88 ?_;intro gb103 hg w10 hbox hb;refine mk7 (xR HO_4 hb) (xB BK101 hb) (xL hb) (hbox) (xG hg HB) (xN hg BK101) (xM hg BK101) ?_;clear HO_4 BK101 HB;intro HO_4 BK101 HB BK103 GW103 NB101_103 NB103_101;clear hb hbox hg;have hnb11 := NB103_101.out;have hnc11 := NB101_103.out;refine zz9 BK103.out ?_;intros) | ((with_reducible refine gate_builtin (b := .append) (xs := #[.tmp 15,.tmp 18]) rfl ?_);at_builtin;refine Kd.R_append k77 (w0 := w) w.heap.size rfl (.tmp 15) (.tmp 18) 27 77 (.agg #[(.int .i64 0),(.int .i64 0),(.int .i64 0),(.int .i64 0),(.int .i64 0),(.int .i64 0),(.int .i64 0)]) 56 rfl Try.underlying27 info77 rfl (by decide) (by omega) u4 x4_1 (⟨(rd_T88 l0_2 x11_1).f0.f0,(rd_T88 l0_2 x11_1).f0.f1,(rd_T88 l0_2 x11_1).f0.f2,(⟨(rd_T88 l0_2 x11_1).f0.f3.f0,(rd_T88 l0_2 x11_1).f0.f3.f1,(rd_T88 l0_2 x11_1).f0.f3.f2⟩ : S75),(rd_T88 l0_2 x11_1).f0.f4⟩ : S77) [.int .i64 ((rd_T88 l0_2 x11_1).f0.f0),.int .i64 ((rd_T88 l0_2 x11_1).f0.f1),.int .i64 ((rd_T88 l0_2 x11_1).f0.f2),.int .i64 ((rd_T88 l0_2 x11_1).f0.f3.f0),.int .i64 ((rd_T88 l0_2 x11_1).f0.f3.f1),.int .i64 ((rd_T88 l0_2 x11_1).f0.f3.f2),.int .i64 ((rd_T88 l0_2 x11_1).f0.f4)] (fun _ => True) (fun _ => False) rfl (by first | (go_simp;done) | (go_simp;rfl)) ?aP (fun _ hk => hk.elim) ?aF ?aO ?aB ?aS ?aL ?_;(case aP => exact k77_mkM _ _ _ (⟨(rd_T88 l0_2 x11_1).f0.f0,(rd_T88 l0_2 x11_1).f0.f1,(rd_T88 l0_2 x11_1).f0.f2,(⟨(rd_T88 l0_2 x11_1).f0.f3.f0,(rd_T88 l0_2 x11_1).f0.f3.f1,(rd_T88 l0_2 x11_1).f0.f3.f2⟩ : S75),(rd_T88 l0_2 x11_1).f0.f4⟩ : S77));(case aB => exact oL);(case aF => exact (fun _ _ => trivial));(case aO => exact (by (with_reducible repeat (first | apply Kd.R_alloc | apply Kd.R_drewN | apply Kd.R_drew));exact Kd.R_mono (oFr HO_4.out BK103.out) (fun _ hk => trivial)));(case aS => exact (below_size oL));(case aL => have := LMc7.out;omega);intro v105 w13 ho hb hg hat;rw [← Ny104.out] at ho;refine mk4 (blk_grown (g := gb101) (o := .cells #[.int .i64 a0_0,.int .i64 a0_1,.slice (some ad102) l0_2.length c0_2] 41 (0,0)) (oG BK101.out NB101_103.out) hg (Kd.R_ne HO_4.out BK101.out (by decide))) (blk_grown (g := gb103) (o := .cells #[.int .i64 ((rd_T88 l0_2 x11_1).f0.f0),.int .i64 ((rd_T88 l0_2 x11_1).f0.f1),.int .i64 ((rd_T88 l0_2 x11_1).f0.f2),.int .i64 ((rd_T88 l0_2 x11_1).f0.f3.f0),.int .i64 ((rd_T88 l0_2 x11_1).f0.f3.f1),.int .i64 ((rd_T88 l0_2 x11_1).f0.f3.f2),.int .i64 ((rd_T88 l0_2 x11_1).f0.f4),.int .i64 ((rd_T88 l0_2 x11_1).f1),.bool ((rd_T88 l0_2 x11_1).f2)] 88 (0,0)) (oP BK103.out) hg (Kd.R_ne HO_4.out BK103.out (by decide))) (hb) (ho) ?_;clear BK101 BK103 HB HO_4;intro BK101 BK103 HB HO106;clear ho hb hg hat;refine zz9 BK103.out ?_;intros) | ((with_reducible refine gC 55 rfl ?_);refine gN Try.func55 #[.agg #[.int .i64 ((rd_T88 l0_2 x11_1).f0.f0),.int .i64 ((rd_T88 l0_2 x11_1).f0.f1),.int .i64 ((rd_T88 l0_2 x11_1).f0.f2),.int .i64 ((rd_T88 l0_2 x11_1).f0.f3.f0),.int .i64 ((rd_T88 l0_2 x11_1).f0.f3.f1),.int .i64 ((rd_T88 l0_2 x11_1).f0.f3.f2),.int .i64 ((rd_T88 l0_2 x11_1).f0.f4)]] ?_;(with_reducible refine (spec_l14Straight.calls k1 ((rd_T88 l0_2 x11_1).f0.f0) ((rd_T88 l0_2 x11_1).f0.f1) ((rd_T88 l0_2 x11_1).f0.f2) ((rd_T88 l0_2 x11_1).f0.f3.f0) ((rd_T88 l0_2 x11_1).f0.f3.f1) ((rd_T88 l0_2 x11_1).f0.f3.f2) ((rd_T88 l0_2 x11_1).f0.f4) true _ A8.out).mono ?_);rintro e w15 ⟨rfl,hb⟩;refine ⟨_,rfl,?_⟩;refine mk4 (xR HO106 hb) (xB BK101 hb) (xB BK103 hb) (xL hb) ?_;clear HO106 BK101 BK103 HB;intro HO106 BK101 BK103 HB));go_roundg k1;case measure => have := HK1.out;omega
        case rel => exact ⟨(y104),(wrap64 (x5_1 + 1)),(wrap64 (x11_1 + 1)),oE,oE,H',⟨by have := HK1.out;omega⟩,⟨by (with_reducible repeat (first | apply Kd.R_alloc | apply Kd.R_drewN | apply Kd.R_drew));exact HO106.out⟩,⟨oB BK101.out⟩,⟨oL⟩⟩
       ·
        replace c9 := Bool.eq_false_iff.mpr c9;subst c9;replace H := iF H;have H' := aS H;clear H;have p102 : 0 ≤ (x11_1 : Int) := oZ;have q102 : x11_1 < (l0_2.length : Int) := oZ;obtain ⟨ad102,e102,hx102_0,hx102_1,hx102_2,hx102_3,hx102_4,hx102_5,hx102_6,hx102_7,hx102_8⟩ := at_T88 HR0_2.out x11_1 p102 q102;cases e102
        replace hx102_0 := oJ HB hx102_0;replace hx102_1 := oJ HB hx102_1;replace hx102_2 := oJ HB hx102_2;replace hx102_3 := oJ HB hx102_3;replace hx102_4 := oJ HB hx102_4;replace hx102_5 := oJ HB hx102_5;replace hx102_6 := oJ HB hx102_6;replace hx102_7 := oJ HB hx102_7;replace hx102_8 := oJ HB hx102_8;replace p102 := eq_true p102;replace q102 := eq_true q102;go_wp2_with (first | ((with_reducible refine gD 7 rfl ?_);refine bY #[.int .i64 0,.int .i64 0,.int .i64 0,.int .i64 0,.int .i64 0,.int .i64 0,.int .i64 0,.int .i64 0,.bool false] 88 ?_;intro gb103 hg w16 hbox hb;refine mk7 (xR HO_4 hb) (xB BK101 hb) (xL hb) (hbox) (xG hg HB) (xN hg BK101) (xM hg BK101) ?_;clear HO_4 BK101 HB;intro HO_4 BK101 HB BK103 GW103 NB101_103 NB103_101;clear hb hbox hg;have hnb17 := NB103_101.out;have hnc17 := NB101_103.out;refine zz9 BK103.out ?_;intros) | ((with_reducible refine gate_builtin (b := .append) (xs := #[.tmp 15,.tmp 18]) rfl ?_);at_builtin;refine Kd.R_append k77 (w0 := w) w.heap.size rfl (.tmp 15) (.tmp 18) 27 77 (.agg #[(.int .i64 0),(.int .i64 0),(.int .i64 0),(.int .i64 0),(.int .i64 0),(.int .i64 0),(.int .i64 0)]) 56 rfl Try.underlying27 info77 rfl (by decide) (by omega) u4 x4_1 (⟨(rd_T88 l0_2 x11_1).f0.f0,(rd_T88 l0_2 x11_1).f0.f1,(rd_T88 l0_2 x11_1).f0.f2,(⟨(rd_T88 l0_2 x11_1).f0.f3.f0,(rd_T88 l0_2 x11_1).f0.f3.f1,(rd_T88 l0_2 x11_1).f0.f3.f2⟩ : S75),(rd_T88 l0_2 x11_1).f0.f4⟩ : S77) [.int .i64 ((rd_T88 l0_2 x11_1).f0.f0),.int .i64 ((rd_T88 l0_2 x11_1).f0.f1),.int .i64 ((rd_T88 l0_2 x11_1).f0.f2),.int .i64 ((rd_T88 l0_2 x11_1).f0.f3.f0),.int .i64 ((rd_T88 l0_2 x11_1).f0.f3.f1),.int .i64 ((rd_T88 l0_2 x11_1).f0.f3.f2),.int .i64 ((rd_T88 l0_2 x11_1).f0.f4)] (fun _ => True) (fun _ => False) rfl (by first | (go_simp;done) | (go_simp;rfl)) ?aP (fun _ hk => hk.elim) ?aF ?aO ?aB ?aS ?aL ?_;(case aP => exact k77_mkM _ _ _ (⟨(rd_T88 l0_2 x11_1).f0.f0,(rd_T88 l0_2 x11_1).f0.f1,(rd_T88 l0_2 x11_1).f0.f2,(⟨(rd_T88 l0_2 x11_1).f0.f3.f0,(rd_T88 l0_2 x11_1).f0.f3.f1,(rd_T88 l0_2 x11_1).f0.f3.f2⟩ : S75),(rd_T88 l0_2 x11_1).f0.f4⟩ : S77));(case aB => exact oL);(case aF => exact (fun _ _ => trivial));(case aO => exact (by (with_reducible repeat (first | apply Kd.R_alloc | apply Kd.R_drewN | apply Kd.R_drew));exact Kd.R_mono (oFr HO_4.out BK103.out) (fun _ hk => trivial)));(case aS => exact (below_size oL));(case aL => have := LMc7.out;omega);intro v105 w19 ho hb hg hat;rw [← Ny104.out] at ho;refine mk4 (blk_grown (g := gb101) (o := .cells #[.int .i64 a0_0,.int .i64 a0_1,.slice (some ad102) l0_2.length c0_2] 41 (0,0)) (oG BK101.out NB101_103.out) hg (Kd.R_ne HO_4.out BK101.out (by decide))) (blk_grown (g := gb103) (o := .cells #[.int .i64 ((rd_T88 l0_2 x11_1).f0.f0),.int .i64 ((rd_T88 l0_2 x11_1).f0.f1),.int .i64 ((rd_T88 l0_2 x11_1).f0.f2),.int .i64 ((rd_T88 l0_2 x11_1).f0.f3.f0),.int .i64 ((rd_T88 l0_2 x11_1).f0.f3.f1),.int .i64 ((rd_T88 l0_2 x11_1).f0.f3.f2),.int .i64 ((rd_T88 l0_2 x11_1).f0.f4),.int .i64 ((rd_T88 l0_2 x11_1).f1),.bool ((rd_T88 l0_2 x11_1).f2)] 88 (0,0)) (oP BK103.out) hg (Kd.R_ne HO_4.out BK103.out (by decide))) (hb) (ho) ?_;clear BK101 BK103 HB HO_4;intro BK101 BK103 HB HO106;clear ho hb hg hat;refine zz9 BK103.out ?_;intros) | ((with_reducible refine gC 55 rfl ?_);refine gN Try.func55 #[.agg #[.int .i64 ((rd_T88 l0_2 x11_1).f0.f0),.int .i64 ((rd_T88 l0_2 x11_1).f0.f1),.int .i64 ((rd_T88 l0_2 x11_1).f0.f2),.int .i64 ((rd_T88 l0_2 x11_1).f0.f3.f0),.int .i64 ((rd_T88 l0_2 x11_1).f0.f3.f1),.int .i64 ((rd_T88 l0_2 x11_1).f0.f3.f2),.int .i64 ((rd_T88 l0_2 x11_1).f0.f4)]] ?_;(with_reducible refine (spec_l14Straight.calls k1 ((rd_T88 l0_2 x11_1).f0.f0) ((rd_T88 l0_2 x11_1).f0.f1) ((rd_T88 l0_2 x11_1).f0.f2) ((rd_T88 l0_2 x11_1).f0.f3.f0) ((rd_T88 l0_2 x11_1).f0.f3.f1) ((rd_T88 l0_2 x11_1).f0.f3.f2) ((rd_T88 l0_2 x11_1).f0.f4) false _ A8.out).mono ?_);rintro e w21 ⟨rfl,hb⟩;refine ⟨_,rfl,?_⟩;refine mk4 (xR HO106 hb) (xB BK101 hb) (xB BK103 hb) (xL hb) ?_;clear HO106 BK101 BK103 HB;intro HO106 BK101 BK103 HB));go_roundg k1;case measure => have := HK1.out;omega
        case rel => exact ⟨(y104),(x5_1),(wrap64 (x11_1 + 1)),oE,oE,H',⟨by have := HK1.out;omega⟩,⟨by (with_reducible repeat (first | apply Kd.R_alloc | apply Kd.R_drewN | apply Kd.R_drew));exact HO106.out⟩,⟨oB BK101.out⟩,⟨oL⟩⟩
      · rw [if_neg c7] at H;exact absurd H (by simp)
     · rw [if_neg c6] at H;exact absurd H (by simp)
    · rw [if_neg c5] at H;exact absurd H (by simp)
   · rw [if_neg c4] at H;have c4b0 := decide_eq_false c4;clear c4;simp only [Option.some.injEq,Prod.mk.injEq] at H;obtain ⟨rfl,rfl⟩ := H;go_wp2;go_ret2;exact ⟨_,oE,by (with_reducible repeat (first | apply Kd.R_alloc | apply Kd.R_drewN | apply Kd.R_drew));exact HO_4.out,oL⟩

/-! ### spec_l1In: function 52 -/
def spec_l1In.f (a0 : Int) (a1 : Int) (a2 : Int) : Option (Bool) := if a0 ≥ a1 then (some (decide (a0 ≤ a2))) else (some false)
set_option maxHeartbeats 8000000 in
set_option maxRecDepth 100000 in
theorem spec_l1In.calls (a0 : Int) (a1 : Int) (a2 : Int) (r : Bool) (w : World) (h : spec_l1In.f a0 a1 a2 = some r) :
  Calls Try.prog 52 #[.int .i64 a0,.int .i64 a1,.int .i64 a2] w fun e w' => e = .returned (.bool r) ∧ Drawn0 w w' := by
 unfold spec_l1In.f at h;have H := h;clear h;by_cases c4 : a0 ≥ a1;{rw [if_pos c4] at H;have c4b0 := decide_eq_true c4;clear c4;obtain rfl := Option.some.inj H;go_enter Try.func52,Try.ntmps52;go_wp2;go_ret;exact ⟨by first | rfl | (simp;done) | (simp [*];done),by repeat (first | exact Drawn0.refl _ | apply Drawn0.step)⟩};{rw [if_neg c4] at H;have c4b0 := decide_eq_false c4;clear c4;obtain rfl := Option.some.inj H;go_enter Try.func52,Try.ntmps52;go_wp2;go_ret;exact ⟨by first | rfl | (simp;done) | (simp [*];done),by repeat (first | exact Drawn0.refl _ | apply Drawn0.step)⟩}

/-! ### spec_l1Size: function 66 -/
def spec_l1Size.f (a0 : Int) : Option (Bool) := if a0 = 1 then (some true) else (some (a0 == 2))
set_option maxHeartbeats 8000000 in
set_option maxRecDepth 100000 in
theorem spec_l1Size.calls (a0 : Int) (r : Bool) (w : World) (h : spec_l1Size.f a0 = some r) :
  Calls Try.prog 66 #[.int .i64 a0] w fun e w' => e = .returned (.bool r) ∧ Drawn0 w w' := by
 unfold spec_l1Size.f at h;have H := h;clear h;by_cases c2 : a0 = 1;{rw [if_pos c2] at H;obtain ⟨c2b0,c2b1⟩ := eT c2;clear c2;obtain rfl := Option.some.inj H;go_enter Try.func66,Try.ntmps66;go_wp2;go_ret;exact ⟨by first | rfl | (simp;done) | (simp [*];done),by repeat (first | exact Drawn0.refl _ | apply Drawn0.step)⟩};{rw [if_neg c2] at H;obtain ⟨c2b0,c2b1⟩ := eF c2;obtain rfl := Option.some.inj H;go_enter Try.func66,Try.ntmps66;go_wp2;go_ret;exact ⟨by first | rfl | (simp;done) | (simp [*];done),by repeat (first | exact Drawn0.refl _ | apply Drawn0.step)⟩}

/-! ### spec_l6Ext: function 106 -/
def spec_l6Ext.f (a0 : Int) : Option (Bool) := some (decide (a0 ≥ 5))
set_option maxHeartbeats 8000000 in
set_option maxRecDepth 100000 in
theorem spec_l6Ext.calls (a0 : Int) (r : Bool) (w : World) (h : spec_l6Ext.f a0 = some r) :
  Calls Try.prog 106 #[.int .i64 a0] w fun e w' => e = .returned (.bool r) ∧ Drawn0 w w' := by
 unfold spec_l6Ext.f at h;have H := h;clear h;obtain rfl := Option.some.inj H;go_enter Try.func106,Try.ntmps106;go_wp2;go_ret;exact ⟨by first | rfl | (simp;done) | (simp [*];done),by repeat (first | exact Drawn0.refl _ | apply Drawn0.step)⟩

/-! ### spec_l6Word: function 126 -/
def spec_l6Word.f (a0 : Int) : Option (Bool) := (spec_l1In.f a0 0 65535).bind fun t101 => (some t101)
set_option maxHeartbeats 8000000 in
set_option maxRecDepth 100000 in
theorem spec_l6Word.calls (a0 : Int) (r : Bool) (w : World) (h : spec_l6Word.f a0 = some r) :
  Calls Try.prog 126 #[.int .i64 a0] w fun e w' => e = .returned (.bool r) ∧ Drawn0 w w' := by
 unfold spec_l6Word.f at h;have H := h;clear h;obtain ⟨t101,A2,H⟩ := bA_ H;obtain rfl := Option.some.inj H;go_enter Try.func126,Try.ntmps126;go_wp2_with (first | ((with_reducible refine gate_callee (f := 52) rfl ?_);refine goesQ (some 4) Try.func52 #[.int .i64 a0,.int .i64 0,.int .i64 65535] (spec_l1In.calls a0 0 65535 t101 _ A2.out) fun nd => ?_));go_ret;exact ⟨by first | rfl | (simp;done) | (simp [*];done),by repeat (first | exact Drawn0.refl _ | apply Drawn0.step)⟩

end Go.Proofs.Ytjnifnhpnccpcaa.H
