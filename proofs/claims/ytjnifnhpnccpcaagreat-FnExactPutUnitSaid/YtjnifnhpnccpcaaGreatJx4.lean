-- Made by this session's program gprint.py out of the translation. Not trusted: Lean checks it.
import Derived.Test.YtjnifnhpnccpcaaGreatJx0
import Derived.Test.YtjnifnhpnccpcaaGreatJx1
import Derived.Test.YtjnifnhpnccpcaaGreatJx3
namespace Go.Proofs.YtjnifnhpnccpcaaGreat.J
open Go.RowKit Go.Proofs.YtjnifnhpnccpcaaGreatW.PrintWords Go.Proofs.YtjnifnhpnccpcaaGreatW.PrintLast Go.Proofs.YtjnifnhpnccpcaaGreatW.PrintMore
attribute [local go_sem] max2_int min2_int max_two min_two max_three min_three max_four min_four
set_option linter.unusedVariables false
set_option linter.unusedSimpArgs false
attribute [local go_sem high] eqA66
def spec_GoodOperand.j0 : Nat → Bool → Int → Int → Int → Option (Bool)
 | 0,_,_,_,_ => none
 | k + 1,x22,x102000,x102001,x102002 => if x22 = true then (some false) else ((spec_l6Word.f x102002).bind fun t104 => (if t104 = true then ((spec_l6Ext.f x102000).bind fun t105 => (if t105 = true then (some true) else (some (x102002 == 0)))) else (some false)))
def spec_GoodOperand.f (k : Nat) (a0_0 : Int) (a0_1 : Int) (a0_2 : Int) : Option (Bool):=(spec_l1In.f a0_0 0 7).bind fun t102 => (if t102 = true then ((spec_l1In.f a0_1 0 3).bind fun t103 => (if t103 = true then (if a0_0 ≥ 6 then (spec_GoodOperand.j0 k (a0_1 != 0) a0_0 a0_1 a0_2) else (spec_GoodOperand.j0 k false a0_0 a0_1 a0_2)) else (spec_GoodOperand.j0 k true a0_0 a0_1 a0_2))) else (spec_GoodOperand.j0 k true a0_0 a0_1 a0_2))
set_option maxHeartbeats 8000000 in
set_option maxRecDepth 100000 in
theorem spec_GoodOperand.calls (k : Nat) (a0_0 : Int) (a0_1 : Int) (a0_2 : Int) (r : Bool) (w : World) (h : spec_GoodOperand.f k a0_0 a0_1 a0_2 = some r) :
  Calls Tryz.prog 60 #[.agg #[.int .i64 a0_0,.int .i64 a0_1,.int .i64 a0_2]] w fun e w' => e = .returned (.bool r) ∧ Below w.heap.size w w':=by
 have hu66:=Tryz.underlying66;have HB:=aS (Below.refl w.heap.size w);unfold spec_GoodOperand.f at h;have H:=h;clear h;have HC2:=aS H;clear H;go_enter Tryz.func60,Tryz.ntmps60;go_upto_region 1 with (first | ((with_reducible refine gD 1 rfl ?_);refine bX (w:=w) #[.int .i64 a0_0,.int .i64 a0_1,.int .i64 a0_2] 66 ?_;clear HB;intro gb101 w3 HB BK101 GW101));(try simp only [Act.put,List.setIfInBounds_toArray,List.set_cons_zero,List.set_cons_succ]);go_cut [22] (fun v22 wc => ∃ (kq : Nat) (x22_1 : Bool),v22 = .bool x22_1 ∧ Aside0 (spec_GoodOperand.j0 kq x22_1 a0_0 a0_1 a0_2 = some r) ∧ Aside0 (kq ≤ k) ∧ Aside0 (wc.heap[gb101]? = some (.cells #[.int .i64 a0_0,.int .i64 a0_1,.int .i64 a0_2] 66 (0,0))) ∧ Aside0 (Below w.heap.size w wc))
 case first =>
  have H:=HC2.out;clear HC2;obtain ⟨t102,A4,H⟩:=bA_ H;by_cases c5 : t102 = true
  ·
   subst c5;replace H:=iT H;obtain ⟨t103,A6,H⟩:=bA_ H;by_cases c7 : t103 = true
   ·
    subst c7;replace H:=iT H;by_cases c8 : a0_0 ≥ 6
    ·
     rw [if_pos c8] at H;have c8b0:=decide_eq_true c8;clear c8;(first | rw [c8b0] | (simp only [i64_w,i32_w];rw [c8b0]) | skip);have H':=aS H;clear H;refine zz3 BK101.out ?_;intros;go_wp2_with (first | ((with_reducible refine gate_callee (f:=33) rfl ?_);refine goesQ (some 5) Tryz.func33 #[.int .i64 a0_0,.int .i64 0,.int .i64 7] (spec_l1In.calls a0_0 0 7 true _ A4.out) fun nd => ?_) | (go_at_call 33;(with_reducible refine (spec_l1In.calls a0_1 0 3 true _ A6.out).mono ?_);rintro e w' ⟨rfl,⟨nd,rfl⟩⟩));go_meet;case rel => exact ⟨_,((a0_1 != 0)),oE,H',⟨by first | omega | exact Nat.le_refl _⟩,⟨oB BK101.out⟩,⟨oL⟩⟩
    ·
     rw [if_neg c8] at H;have c8b0:=decide_eq_false c8;clear c8;(first | rw [c8b0] | (simp only [i64_w,i32_w];rw [c8b0]) | skip);have H':=aS H;clear H;refine zz3 BK101.out ?_;intros;go_wp2_with (first | ((with_reducible refine gate_callee (f:=33) rfl ?_);refine goesQ (some 5) Tryz.func33 #[.int .i64 a0_0,.int .i64 0,.int .i64 7] (spec_l1In.calls a0_0 0 7 true _ A4.out) fun nd => ?_) | (go_at_call 33;(with_reducible refine (spec_l1In.calls a0_1 0 3 true _ A6.out).mono ?_);rintro e w' ⟨rfl,⟨nd,rfl⟩⟩));go_meet;case rel => exact ⟨_,(false),oE,H',⟨by first | omega | exact Nat.le_refl _⟩,⟨oB BK101.out⟩,⟨oL⟩⟩
   ·
    replace c7:=Bool.eq_false_iff.mpr c7;subst c7;replace H:=iF H;have H':=aS H;clear H;refine zz3 BK101.out ?_;intros;go_wp2_with (first | ((with_reducible refine gate_callee (f:=33) rfl ?_);refine goesQ (some 5) Tryz.func33 #[.int .i64 a0_0,.int .i64 0,.int .i64 7] (spec_l1In.calls a0_0 0 7 true _ A4.out) fun nd => ?_) | (go_at_call 33;(with_reducible refine (spec_l1In.calls a0_1 0 3 false _ A6.out).mono ?_);rintro e w' ⟨rfl,⟨nd,rfl⟩⟩));go_meet;case rel => exact ⟨_,(true),oE,H',⟨by first | omega | exact Nat.le_refl _⟩,⟨oB BK101.out⟩,⟨oL⟩⟩
  ·
   replace c5:=Bool.eq_false_iff.mpr c5;subst c5;replace H:=iF H;have H':=aS H;clear H;refine zz3 BK101.out ?_;intros;go_wp2_with (first | ((with_reducible refine gate_callee (f:=33) rfl ?_);refine goesQ (some 5) Tryz.func33 #[.int .i64 a0_0,.int .i64 0,.int .i64 7] (spec_l1In.calls a0_0 0 7 false _ A4.out) fun nd => ?_));go_meet;case rel => exact ⟨_,(true),oE,H',⟨by first | omega | exact Nat.le_refl _⟩,⟨oB BK101.out⟩,⟨oL⟩⟩
 case rest =>
  clear HC2;obtain ⟨kq,x22_1,rfl,HA,HJ1,BK101,HB⟩:=hcut;cases kq with
  | zero => exact absurd HA.out (by simp [spec_GoodOperand.j0])
  | succ kj1 =>
   have H:=HA.out;clear HA;simp only [spec_GoodOperand.j0] at H;by_cases c13 : x22_1 = true;{subst c13;replace H:=iT H;obtain rfl:=Option.some.inj H;go_wp2;go_ret;exact ⟨oE,oL⟩}
   ·
    replace c13:=Bool.eq_false_iff.mpr c13;subst c13;replace H:=iF H;obtain ⟨t104,A14,H⟩:=bA_ H;by_cases c15 : t104 = true
    ·
     subst c15;replace H:=iT H;obtain ⟨t105,A16,H⟩:=bA_ H;by_cases c17 : t105 = true
     ·
      subst c17;replace H:=iT H;obtain rfl:=Option.some.inj H;refine zz3 BK101.out ?_;intros;go_wp2_with (first | ((with_reducible refine gate_callee (f:=81) rfl ?_);refine goesQ (some 25) Tryz.func81 #[.int .i64 a0_2] (spec_l6Word.calls a0_2 true _ A14.out) fun nd => ?_) | (go_at_call 65;(with_reducible refine (spec_l6Ext.calls a0_0 true _ A16.out).mono ?_);rintro e w' ⟨rfl,⟨nd,rfl⟩⟩));go_ret;exact ⟨oE,oL⟩
     ·
      replace c17:=Bool.eq_false_iff.mpr c17;subst c17;replace H:=iF H;obtain rfl:=Option.some.inj H;refine zz3 BK101.out ?_;intros;go_wp2_with (first | ((with_reducible refine gate_callee (f:=81) rfl ?_);refine goesQ (some 25) Tryz.func81 #[.int .i64 a0_2] (spec_l6Word.calls a0_2 true _ A14.out) fun nd => ?_) | (go_at_call 65;(with_reducible refine (spec_l6Ext.calls a0_0 false _ A16.out).mono ?_);rintro e w' ⟨rfl,⟨nd,rfl⟩⟩));go_ret;exact ⟨oE,oL⟩
    ·
     replace c15:=Bool.eq_false_iff.mpr c15;subst c15;replace H:=iF H;obtain rfl:=Option.some.inj H;refine zz3 BK101.out ?_;intros;go_wp2_with (first | ((with_reducible refine gate_callee (f:=81) rfl ?_);refine goesQ (some 25) Tryz.func81 #[.int .i64 a0_2] (spec_l6Word.calls a0_2 false _ A14.out) fun nd => ?_));go_ret;exact ⟨oE,oL⟩
def spec_l7Memory.f (a0 : Int) : Option (Bool):=(spec_l1In.f a0 2 6).bind fun t101 => (some t101)
set_option maxHeartbeats 8000000 in
set_option maxRecDepth 100000 in
theorem spec_l7Memory.calls (a0 : Int) (r : Bool) (w : World) (h : spec_l7Memory.f a0 = some r) :
  Calls Tryz.prog 61 #[.int .i64 a0] w fun e w' => e = .returned (.bool r) ∧ Drawn0 w w':=by
 unfold spec_l7Memory.f at h;have H:=h;clear h;obtain ⟨t101,A2,H⟩:=bA_ H;obtain rfl:=Option.some.inj H;go_enter Tryz.func61,Tryz.ntmps61;go_wp2_with (first | ((with_reducible refine gate_callee (f:=33) rfl ?_);refine goesQ (some 4) Tryz.func33 #[.int .i64 a0,.int .i64 2,.int .i64 6] (spec_l1In.calls a0 2 6 t101 _ A2.out) fun nd => ?_));go_ret;exact ⟨by first | rfl | (simp;done) | (simp [*];done),by repeat (first | exact Drawn0.refl _ | apply Drawn0.step)⟩
def spec_l7Plain.f (a0 : Int) : Option (Bool):=if a0 = 2 then (some true) else (if a0 = 5 then (some true) else (some (a0 == 6)))
set_option maxHeartbeats 8000000 in
set_option maxRecDepth 100000 in
theorem spec_l7Plain.calls (a0 : Int) (r : Bool) (w : World) (h : spec_l7Plain.f a0 = some r) :
  Calls Tryz.prog 62 #[.int .i64 a0] w fun e w' => e = .returned (.bool r) ∧ Drawn0 w w':=by
 unfold spec_l7Plain.f at h;have H:=h;clear h;by_cases c2 : a0 = 2;{rw [if_pos c2] at H;obtain ⟨c2b0,c2b1⟩:=eT c2;clear c2;obtain rfl:=Option.some.inj H;go_enter Tryz.func62,Tryz.ntmps62;go_wp2;go_ret;exact ⟨by first | rfl | (simp;done) | (simp [*];done),by repeat (first | exact Drawn0.refl _ | apply Drawn0.step)⟩}
 ·
  rw [if_neg c2] at H;obtain ⟨c2b0,c2b1⟩:=eF c2;by_cases c3 : a0 = 5;{rw [if_pos c3] at H;obtain ⟨c3b0,c3b1⟩:=eT c3;clear c3;obtain rfl:=Option.some.inj H;go_enter Tryz.func62,Tryz.ntmps62;go_wp2;go_ret;exact ⟨by first | rfl | (simp;done) | (simp [*];done),by repeat (first | exact Drawn0.refl _ | apply Drawn0.step)⟩};{rw [if_neg c3] at H;obtain ⟨c3b0,c3b1⟩:=eF c3;obtain rfl:=Option.some.inj H;go_enter Tryz.func62,Tryz.ntmps62;go_wp2;go_ret;exact ⟨by first | rfl | (simp;done) | (simp [*];done),by repeat (first | exact Drawn0.refl _ | apply Drawn0.step)⟩}
def spec_l7Now.f (a0_0 : Int) (a0_1 : Int) (a0_2 : Int) : Option (Bool):=if a0_0 = 7 then (some (decide (a0_2 ≤ 1023))) else (some false)
set_option maxHeartbeats 8000000 in
set_option maxRecDepth 100000 in
theorem spec_l7Now.calls (a0_0 : Int) (a0_1 : Int) (a0_2 : Int) (r : Bool) (w : World) (h : spec_l7Now.f a0_0 a0_1 a0_2 = some r) :
  Calls Tryz.prog 63 #[.agg #[.int .i64 a0_0,.int .i64 a0_1,.int .i64 a0_2]] w fun e w' => e = .returned (.bool r) ∧ Below w.heap.size w w':=by
 have hu66:=Tryz.underlying66;have HB:=aS (Below.refl w.heap.size w);unfold spec_l7Now.f at h;have H:=h;clear h;by_cases c2 : a0_0 = 7
 ·
  rw [if_pos c2] at H;obtain ⟨c2b0,c2b1⟩:=eT c2;clear c2;obtain rfl:=Option.some.inj H;go_enter Tryz.func63,Tryz.ntmps63;go_wp2_with (first | ((with_reducible refine gD 1 rfl ?_);refine bX (w:=w) #[.int .i64 a0_0,.int .i64 a0_1,.int .i64 a0_2] 66 ?_;clear HB;intro gb101 w3 HB BK101 GW101;refine zz3 BK101.out ?_;intros));go_ret;exact ⟨oE,oL⟩
 ·
  rw [if_neg c2] at H;obtain ⟨c2b0,c2b1⟩:=eF c2;obtain rfl:=Option.some.inj H;go_enter Tryz.func63,Tryz.ntmps63;go_wp2_with (first | ((with_reducible refine gD 1 rfl ?_);refine bX (w:=w) #[.int .i64 a0_0,.int .i64 a0_1,.int .i64 a0_2] 66 ?_;clear HB;intro gb101 w5 HB BK101 GW101;refine zz3 BK101.out ?_;intros));go_ret;exact ⟨oE,oL⟩
def spec_l7Zero.f (a0_0 : Int) (a0_1 : Int) (a0_2 : Int) : Option (Bool):=some (a0_0 == 0 && (a0_1 == 0 && (a0_2 == 0)))
set_option maxHeartbeats 8000000 in
set_option maxRecDepth 100000 in
theorem spec_l7Zero.calls (a0_0 : Int) (a0_1 : Int) (a0_2 : Int) (r : Bool) (w : World) (h : spec_l7Zero.f a0_0 a0_1 a0_2 = some r) :
  Calls Tryz.prog 64 #[.agg #[.int .i64 a0_0,.int .i64 a0_1,.int .i64 a0_2]] w fun e w' => e = .returned (.bool r) ∧ Below w.heap.size w w':=by
 have hu66:=Tryz.underlying66;have HB:=aS (Below.refl w.heap.size w);unfold spec_l7Zero.f at h;have H:=h;clear h;obtain rfl:=Option.some.inj H;go_enter Tryz.func64,Tryz.ntmps64;go_wp2_with (first | ((with_reducible refine gD 1 rfl ?_);refine bX (w:=w) #[.int .i64 a0_0,.int .i64 a0_1,.int .i64 a0_2] 66 ?_;clear HB;intro gb101 w2 HB BK101 GW101;refine zz3 BK101.out ?_;intros));go_ret;exact ⟨oE,oL⟩
end Go.Proofs.YtjnifnhpnccpcaaGreat.J
