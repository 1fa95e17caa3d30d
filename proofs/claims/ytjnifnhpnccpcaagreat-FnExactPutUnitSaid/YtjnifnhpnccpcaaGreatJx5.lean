-- Made by this session's program gprint.py out of the translation. Not trusted: Lean checks it.
import Derived.Test.YtjnifnhpnccpcaaGreatJx0
import Derived.Test.YtjnifnhpnccpcaaGreatJx3
import Derived.Test.YtjnifnhpnccpcaaGreatJx4
namespace Go.Proofs.YtjnifnhpnccpcaaGreat.J
open Go.RowKit Go.Proofs.YtjnifnhpnccpcaaGreatW.PrintWords Go.Proofs.YtjnifnhpnccpcaaGreatW.PrintLast Go.Proofs.YtjnifnhpnccpcaaGreatW.PrintMore
attribute [local go_sem] max2_int min2_int max_two min_two max_three min_three max_four min_four
set_option linter.unusedVariables false
set_option linter.unusedSimpArgs false
mutual
def spec_GoodIns.j0 : Nat → Bool → Int → Int → Int → Int → Int → Int → Int → Option (Bool)
 | 0,_,_,_,_,_,_,_,_ => none
 | k + 1,x43,x102000,x102001,x102002,x102003,x102004,x102005,x102006 => if x43 = true then (some false) else (if x102000 = 1 then (spec_GoodIns.j1 k (x102001 == 2) x102003 x102000 (x102000 == 1) x102000 x102001 x102002 x102003 x102004 x102005 x102006) else (if x102000 = 3 then (spec_GoodIns.j1 k (x102001 == 2) x102003 x102000 (x102000 == 3) x102000 x102001 x102002 x102003 x102004 x102005 x102006) else (if x102000 = 4 then (spec_GoodIns.j1 k (x102001 == 2) x102003 x102000 (x102000 == 4) x102000 x102001 x102002 x102003 x102004 x102005 x102006) else (if x102000 = 5 then (spec_GoodIns.j1 k (x102001 == 2) x102003 x102000 (x102000 == 5) x102000 x102001 x102002 x102003 x102004 x102005 x102006) else (if x102000 = 6 then (spec_GoodIns.j1 k (x102001 == 2) x102003 x102000 (x102000 == 6) x102000 x102001 x102002 x102003 x102004 x102005 x102006) else (if x102000 = 7 then (spec_GoodIns.j1 k (x102001 == 2) x102003 x102000 (x102000 == 7) x102000 x102001 x102002 x102003 x102004 x102005 x102006) else (spec_GoodIns.j1 k (x102001 == 2) x102003 x102000 (x102000 == 8) x102000 x102001 x102002 x102003 x102004 x102005 x102006)))))))
def spec_GoodIns.j1 : Nat → Bool → Int → Int → Bool → Int → Int → Int → Int → Int → Int → Int → Option (Bool)
 | 0,_,_,_,_,_,_,_,_,_,_,_ => none
 | k + 1,x3,x4,x51,x52,x102000,x102001,x102002,x102003,x102004,x102005,x102006 => if x52 = true then (if x102006 = 0 then (if x3 = true then (some true) else (some (x4 != 1))) else (some false)) else (if x51 = 2 then (if x102006 = 0 then (if x4 = 0 then (some true) else ((spec_l7Memory.f x4).bind fun t106 => (some t106))) else (some false)) else (if x51 = 9 then (if x3 = true then (some (x102006 == 0)) else (some false)) else (if x51 = 10 then (if x3 = true then (if x102006 = 0 then ((spec_l7Plain.f x4).bind fun t107 => (some t107)) else (some false)) else (some false)) else (if x51 = 11 then (if x102002 = 0 then (if x102006 ≤ 3 then (if x4 = 0 then (some true) else ((spec_l7Memory.f x4).bind fun t108 => (some t108))) else (some false)) else (some false)) else (if x51 = 12 then (some (x4 == 0)) else (if x51 = 13 then (if x3 = true then (if x102002 ≤ 1 then (some (x4 == 7)) else (some false)) else (some false)) else (if x51 = 14 then (if x3 = true then (if x102002 = 0 then (if x102006 ≤ 1 then ((spec_l7Plain.f x4).bind fun t109 => (some t109)) else (some false)) else (some false)) else (some false)) else (if x51 = 16 then (spec_GoodIns.j2 k x3 x4 x51 (x51 == 16) x102000 x102001 x102002 x102003 x102004 x102005 x102006) else (spec_GoodIns.j2 k x3 x4 x51 (x51 == 17) x102000 x102001 x102002 x102003 x102004 x102005 x102006)))))))))
def spec_GoodIns.j2 : Nat → Bool → Int → Int → Bool → Int → Int → Int → Int → Int → Int → Int → Option (Bool)
 | 0,_,_,_,_,_,_,_,_,_,_,_ => none
 | k + 1,x3,x4,x51,x154,x102000,x102001,x102002,x102003,x102004,x102005,x102006 => if x154 = true then (if x3 = true then (if x102006 = 0 then (some (x4 != 1)) else (some false)) else (some false)) else (if x51 = 18 then (if x3 = true then (some false) else (if x102006 ≤ 1 then (some (x4 == 0)) else (some false))) else (if x51 = 19 then (if x3 = true then (if x102006 = 0 then (if x102002 = 0 then ((spec_l7Now.f x102003 x102004 x102005).bind fun t110 => (if t110 = true then (some true) else (if x102006 = 1 then ((spec_l7Zero.f x102003 x102004 x102005).bind fun t111 => (some t111)) else (some false)))) else (if x102006 = 1 then ((spec_l7Zero.f x102003 x102004 x102005).bind fun t112 => (some t112)) else (some false))) else (if x102006 = 1 then ((spec_l7Zero.f x102003 x102004 x102005).bind fun t113 => (some t113)) else (some false))) else (some false)) else (if x51 = 15 then (if x102006 = 3 then (if x3 = true then (if x102002 = 0 then ((spec_l7Now.f x102003 x102004 x102005).bind fun t114 => (some t114)) else (some false)) else (some false)) else (if x3 = true then (if x102006 ≤ 6 then ((spec_l7Zero.f x102003 x102004 x102005).bind fun t115 => (if t115 = true then (if x102006 > 3 then (some true) else (some (x102002 == 0))) else (some false))) else (some false)) else (some false))) else (some false))))
end
def spec_GoodIns.f (k : Nat) (a0_0 : Int) (a0_1 : Int) (a0_2 : Int) (a0_3 : Int) (a0_4 : Int) (a0_5 : Int) (a0_6 : Int) : Option (Bool):=(spec_l1Size.f a0_1).bind fun t102 => (if t102 = true then ((spec_l1In.f a0_2 0 3).bind fun t103 => (if t103 = true then ((spec_GoodOperand.f k a0_3 a0_4 a0_5).bind fun t104 => (if t104 = true then ((spec_l1In.f a0_6 0 7).bind fun t105 => (if t105 = true then (if a0_3 = 7 then (if a0_1 = 1 then (spec_GoodIns.j0 k (decide (a0_5 > 255)) a0_0 a0_1 a0_2 a0_3 a0_4 a0_5 a0_6) else (spec_GoodIns.j0 k false a0_0 a0_1 a0_2 a0_3 a0_4 a0_5 a0_6)) else (spec_GoodIns.j0 k false a0_0 a0_1 a0_2 a0_3 a0_4 a0_5 a0_6)) else (spec_GoodIns.j0 k true a0_0 a0_1 a0_2 a0_3 a0_4 a0_5 a0_6))) else (spec_GoodIns.j0 k true a0_0 a0_1 a0_2 a0_3 a0_4 a0_5 a0_6))) else (spec_GoodIns.j0 k true a0_0 a0_1 a0_2 a0_3 a0_4 a0_5 a0_6))) else (spec_GoodIns.j0 k true a0_0 a0_1 a0_2 a0_3 a0_4 a0_5 a0_6))
set_option maxHeartbeats 8000000 in
set_option maxRecDepth 100000 in
theorem spec_GoodIns.calls (k : Nat) (a0_0 : Int) (a0_1 : Int) (a0_2 : Int) (a0_3 : Int) (a0_4 : Int) (a0_5 : Int) (a0_6 : Int) (r : Bool) (w : World) (h : spec_GoodIns.f k a0_0 a0_1 a0_2 a0_3 a0_4 a0_5 a0_6 = some r) :
  Calls Tryz.prog 35 #[.agg #[.int .i64 a0_0,.int .i64 a0_1,.int .i64 a0_2,.int .i64 a0_3,.int .i64 a0_4,.int .i64 a0_5,.int .i64 a0_6]] w fun e w' => e = .returned (.bool r) ∧ Below w.heap.size w w':=by
 have hu68:=Tryz.underlying68;have hu66:=Tryz.underlying66;have HB:=aS (Below.refl w.heap.size w);unfold spec_GoodIns.f at h;have H:=h;clear h;have HC2:=aS H;clear H;go_enter Tryz.func35,Tryz.ntmps35;go_upto_region 1 with (first | ((with_reducible refine gD 1 rfl ?_);refine bX (w:=w) #[.int .i64 a0_0,.int .i64 a0_1,.int .i64 a0_2,.int .i64 a0_3,.int .i64 a0_4,.int .i64 a0_5,.int .i64 a0_6] 68 ?_;clear HB;intro gb101 w3 HB BK101 GW101));(try simp only [Act.put,List.setIfInBounds_toArray,List.set_cons_zero,List.set_cons_succ]);go_cut [43] (fun v43 wc => ∃ (kq : Nat) (x43_1 : Bool),v43 = .bool x43_1 ∧ Aside0 (spec_GoodIns.j0 kq x43_1 a0_0 a0_1 a0_2 a0_3 a0_4 a0_5 a0_6 = some r) ∧ Aside0 (kq ≤ k) ∧ Aside0 (wc.heap[gb101]? = some (.cells #[.int .i64 a0_0,.int .i64 a0_1,.int .i64 a0_2,.int .i64 a0_3,.int .i64 a0_4,.int .i64 a0_5,.int .i64 a0_6] 68 (0,0))) ∧ Aside0 (Below w.heap.size w wc))
 case first =>
  have H:=HC2.out;clear HC2;obtain ⟨t102,A4,H⟩:=bA_ H;by_cases c5 : t102 = true
  ·
   subst c5;replace H:=iT H;obtain ⟨t103,A6,H⟩:=bA_ H;by_cases c7 : t103 = true
   ·
    subst c7;replace H:=iT H;obtain ⟨t104,A8,H⟩:=bA_ H;by_cases c9 : t104 = true
    ·
     subst c9;replace H:=iT H;obtain ⟨t105,A10,H⟩:=bA_ H;by_cases c11 : t105 = true
     ·
      subst c11;replace H:=iT H;by_cases c12 : a0_3 = 7
      ·
       rw [if_pos c12] at H;obtain ⟨c12b0,c12b1⟩:=eT c12;clear c12;(first | rw [c12b0] | (simp only [i64_w,i32_w];rw [c12b0]) | skip);by_cases c13 : a0_1 = 1
       ·
        rw [if_pos c13] at H;obtain ⟨c13b0,c13b1⟩:=eT c13;clear c13;have H':=aS H;clear H;refine zz7 BK101.out ?_;intros
        as_aux_lemma =>
         go_wp2_with (first | ((with_reducible refine gate_callee (f:=59) rfl ?_);refine goesQ (some 7) Tryz.func59 #[.int .i64 a0_1] (spec_l1Size.calls a0_1 true _ A4.out) fun nd => ?_) | (go_at_call 33;(with_reducible refine (spec_l1In.calls a0_2 0 3 true _ A6.out).mono ?_);rintro e w' ⟨rfl,⟨nd,rfl⟩⟩) | (go_at_call 60;(with_reducible refine (spec_GoodOperand.calls k a0_3 a0_4 a0_5 true _ A8.out).mono ?_);rintro e w15 ⟨rfl,hb⟩;refine mk2 (xB BK101 hb) (xL hb) ?_;clear BK101 HB;intro BK101 HB;refine zz7 BK101.out ?_;intros) | (go_at_call 33;(with_reducible refine (spec_l1In.calls a0_6 0 7 true _ A10.out).mono ?_);rintro e w' ⟨rfl,⟨nd,rfl⟩⟩));go_meet;case rel => exact ⟨_,(decide (a0_5 > 255)),oE,H',⟨by first | omega | exact Nat.le_refl _⟩,⟨oB BK101.out⟩,⟨oL⟩⟩
       ·
        rw [if_neg c13] at H;obtain ⟨c13b0,c13b1⟩:=eF c13;have H':=aS H;clear H;refine zz7 BK101.out ?_;intros
        as_aux_lemma =>
         go_wp2_with (first | ((with_reducible refine gate_callee (f:=59) rfl ?_);refine goesQ (some 7) Tryz.func59 #[.int .i64 a0_1] (spec_l1Size.calls a0_1 true _ A4.out) fun nd => ?_) | (go_at_call 33;(with_reducible refine (spec_l1In.calls a0_2 0 3 true _ A6.out).mono ?_);rintro e w' ⟨rfl,⟨nd,rfl⟩⟩) | (go_at_call 60;(with_reducible refine (spec_GoodOperand.calls k a0_3 a0_4 a0_5 true _ A8.out).mono ?_);rintro e w18 ⟨rfl,hb⟩;refine mk2 (xB BK101 hb) (xL hb) ?_;clear BK101 HB;intro BK101 HB;refine zz7 BK101.out ?_;intros) | (go_at_call 33;(with_reducible refine (spec_l1In.calls a0_6 0 7 true _ A10.out).mono ?_);rintro e w' ⟨rfl,⟨nd,rfl⟩⟩));go_meet;case rel => exact ⟨_,(false),oE,H',⟨by first | omega | exact Nat.le_refl _⟩,⟨oB BK101.out⟩,⟨oL⟩⟩
      ·
       rw [if_neg c12] at H;obtain ⟨c12b0,c12b1⟩:=eF c12;(first | rw [c12b0] | (simp only [i64_w,i32_w];rw [c12b0]) | skip);have H':=aS H;clear H;refine zz7 BK101.out ?_;intros
       as_aux_lemma =>
        go_wp2_with (first | ((with_reducible refine gate_callee (f:=59) rfl ?_);refine goesQ (some 7) Tryz.func59 #[.int .i64 a0_1] (spec_l1Size.calls a0_1 true _ A4.out) fun nd => ?_) | (go_at_call 33;(with_reducible refine (spec_l1In.calls a0_2 0 3 true _ A6.out).mono ?_);rintro e w' ⟨rfl,⟨nd,rfl⟩⟩) | (go_at_call 60;(with_reducible refine (spec_GoodOperand.calls k a0_3 a0_4 a0_5 true _ A8.out).mono ?_);rintro e w21 ⟨rfl,hb⟩;refine mk2 (xB BK101 hb) (xL hb) ?_;clear BK101 HB;intro BK101 HB;refine zz7 BK101.out ?_;intros) | (go_at_call 33;(with_reducible refine (spec_l1In.calls a0_6 0 7 true _ A10.out).mono ?_);rintro e w' ⟨rfl,⟨nd,rfl⟩⟩));go_meet;case rel => exact ⟨_,(false),oE,H',⟨by first | omega | exact Nat.le_refl _⟩,⟨oB BK101.out⟩,⟨oL⟩⟩
     ·
      replace c11:=Bool.eq_false_iff.mpr c11;subst c11;replace H:=iF H;have H':=aS H;clear H;refine zz7 BK101.out ?_;intros
      as_aux_lemma =>
       go_wp2_with (first | ((with_reducible refine gate_callee (f:=59) rfl ?_);refine goesQ (some 7) Tryz.func59 #[.int .i64 a0_1] (spec_l1Size.calls a0_1 true _ A4.out) fun nd => ?_) | (go_at_call 33;(with_reducible refine (spec_l1In.calls a0_2 0 3 true _ A6.out).mono ?_);rintro e w' ⟨rfl,⟨nd,rfl⟩⟩) | (go_at_call 60;(with_reducible refine (spec_GoodOperand.calls k a0_3 a0_4 a0_5 true _ A8.out).mono ?_);rintro e w24 ⟨rfl,hb⟩;refine mk2 (xB BK101 hb) (xL hb) ?_;clear BK101 HB;intro BK101 HB;refine zz7 BK101.out ?_;intros) | (go_at_call 33;(with_reducible refine (spec_l1In.calls a0_6 0 7 false _ A10.out).mono ?_);rintro e w' ⟨rfl,⟨nd,rfl⟩⟩));go_meet;case rel => exact ⟨_,(true),oE,H',⟨by first | omega | exact Nat.le_refl _⟩,⟨oB BK101.out⟩,⟨oL⟩⟩
    ·
     replace c9:=Bool.eq_false_iff.mpr c9;subst c9;replace H:=iF H;have H':=aS H;clear H;refine zz7 BK101.out ?_;intros
     as_aux_lemma =>
      go_wp2_with (first | ((with_reducible refine gate_callee (f:=59) rfl ?_);refine goesQ (some 7) Tryz.func59 #[.int .i64 a0_1] (spec_l1Size.calls a0_1 true _ A4.out) fun nd => ?_) | (go_at_call 33;(with_reducible refine (spec_l1In.calls a0_2 0 3 true _ A6.out).mono ?_);rintro e w' ⟨rfl,⟨nd,rfl⟩⟩) | (go_at_call 60;(with_reducible refine (spec_GoodOperand.calls k a0_3 a0_4 a0_5 false _ A8.out).mono ?_);rintro e w27 ⟨rfl,hb⟩;refine mk2 (xB BK101 hb) (xL hb) ?_;clear BK101 HB;intro BK101 HB));go_meet;case rel => exact ⟨_,(true),oE,H',⟨by first | omega | exact Nat.le_refl _⟩,⟨oB BK101.out⟩,⟨oL⟩⟩
   ·
    replace c7:=Bool.eq_false_iff.mpr c7;subst c7;replace H:=iF H;have H':=aS H;clear H;refine zz7 BK101.out ?_;intros
    as_aux_lemma =>
     go_wp2_with (first | ((with_reducible refine gate_callee (f:=59) rfl ?_);refine goesQ (some 7) Tryz.func59 #[.int .i64 a0_1] (spec_l1Size.calls a0_1 true _ A4.out) fun nd => ?_) | (go_at_call 33;(with_reducible refine (spec_l1In.calls a0_2 0 3 false _ A6.out).mono ?_);rintro e w' ⟨rfl,⟨nd,rfl⟩⟩));go_meet;case rel => exact ⟨_,(true),oE,H',⟨by first | omega | exact Nat.le_refl _⟩,⟨oB BK101.out⟩,⟨oL⟩⟩
  ·
   replace c5:=Bool.eq_false_iff.mpr c5;subst c5;replace H:=iF H;have H':=aS H;clear H;refine zz7 BK101.out ?_;intros
   as_aux_lemma =>
    go_wp2_with (first | ((with_reducible refine gate_callee (f:=59) rfl ?_);refine goesQ (some 7) Tryz.func59 #[.int .i64 a0_1] (spec_l1Size.calls a0_1 false _ A4.out) fun nd => ?_));go_meet;case rel => exact ⟨_,(true),oE,H',⟨by first | omega | exact Nat.le_refl _⟩,⟨oB BK101.out⟩,⟨oL⟩⟩
 case rest =>
  as_aux_lemma =>
   clear HC2;obtain ⟨kq,x43_1,rfl,HA,HJ1,BK101,HB⟩:=hcut;cases kq with
   | zero => exact absurd HA.out (by simp [spec_GoodIns.j0])
   | succ kj1 =>
    have H:=HA.out;clear HA;simp only [spec_GoodIns.j0] at H;by_cases c30 : x43_1 = true
    ·
     subst c30;replace H:=iT H;obtain rfl:=Option.some.inj H
     as_aux_lemma =>
      go_wp2;go_ret;exact ⟨oE,oL⟩
    ·
     replace c30:=Bool.eq_false_iff.mpr c30;subst c30;replace H:=iF H;have HC31:=aS H;clear H;refine zz7 BK101.out ?_;intros;go_upto_if 52 with (fail);go_cut [52] (fun v52 wc => ∃ (kq : Nat) (x52_30 : Bool),v52 = .bool x52_30 ∧ Aside0 (spec_GoodIns.j1 kq (a0_1 == 2) a0_3 a0_0 x52_30 a0_0 a0_1 a0_2 a0_3 a0_4 a0_5 a0_6 = some r) ∧ Aside0 (kq ≤ kj1) ∧ Aside0 (wc.heap[gb101]? = some (.cells #[.int .i64 a0_0,.int .i64 a0_1,.int .i64 a0_2,.int .i64 a0_3,.int .i64 a0_4,.int .i64 a0_5,.int .i64 a0_6] 68 (0,0))) ∧ Aside0 (Below w.heap.size w wc))
     case first =>
      have H:=HC31.out;clear HC31;by_cases c33 : a0_0 = 1
      ·
       rw [if_pos c33] at H;obtain ⟨c33b0,c33b1⟩:=eT c33;clear c33;(first | rw [c33b0] | (simp only [i64_w,i32_w];rw [c33b0]) | skip);have H':=aS H;clear H
       as_aux_lemma =>
        go_wp2;go_meet;case rel => exact ⟨_,((a0_0 == 1)),oE,H',⟨by have:=HJ1.out;first | omega | exact Nat.le_refl _⟩,⟨oB BK101.out⟩,⟨oL⟩⟩
      ·
       rw [if_neg c33] at H;obtain ⟨c33b0,c33b1⟩:=eF c33;(first | rw [c33b0] | (simp only [i64_w,i32_w];rw [c33b0]) | skip);by_cases c34 : a0_0 = 3
       ·
        rw [if_pos c34] at H;obtain ⟨c34b0,c34b1⟩:=eT c34;clear c34;have H':=aS H;clear H
        as_aux_lemma =>
         go_wp2;go_meet;case rel => exact ⟨_,((a0_0 == 3)),oE,H',⟨by have:=HJ1.out;first | omega | exact Nat.le_refl _⟩,⟨oB BK101.out⟩,⟨oL⟩⟩
       ·
        rw [if_neg c34] at H;obtain ⟨c34b0,c34b1⟩:=eF c34;by_cases c35 : a0_0 = 4
        ·
         rw [if_pos c35] at H;obtain ⟨c35b0,c35b1⟩:=eT c35;clear c35;have H':=aS H;clear H
         as_aux_lemma =>
          go_wp2;go_meet;case rel => exact ⟨_,((a0_0 == 4)),oE,H',⟨by have:=HJ1.out;first | omega | exact Nat.le_refl _⟩,⟨oB BK101.out⟩,⟨oL⟩⟩
        ·
         rw [if_neg c35] at H;obtain ⟨c35b0,c35b1⟩:=eF c35;by_cases c36 : a0_0 = 5
         ·
          rw [if_pos c36] at H;obtain ⟨c36b0,c36b1⟩:=eT c36;clear c36;have H':=aS H;clear H
          as_aux_lemma =>
           go_wp2;go_meet;case rel => exact ⟨_,((a0_0 == 5)),oE,H',⟨by have:=HJ1.out;first | omega | exact Nat.le_refl _⟩,⟨oB BK101.out⟩,⟨oL⟩⟩
         ·
          rw [if_neg c36] at H;obtain ⟨c36b0,c36b1⟩:=eF c36;by_cases c37 : a0_0 = 6
          ·
           rw [if_pos c37] at H;obtain ⟨c37b0,c37b1⟩:=eT c37;clear c37;have H':=aS H;clear H
           as_aux_lemma =>
            go_wp2;go_meet;case rel => exact ⟨_,((a0_0 == 6)),oE,H',⟨by have:=HJ1.out;first | omega | exact Nat.le_refl _⟩,⟨oB BK101.out⟩,⟨oL⟩⟩
          ·
           rw [if_neg c37] at H;obtain ⟨c37b0,c37b1⟩:=eF c37;by_cases c38 : a0_0 = 7
           ·
            rw [if_pos c38] at H;obtain ⟨c38b0,c38b1⟩:=eT c38;clear c38;have H':=aS H;clear H
            as_aux_lemma =>
             go_wp2;go_meet;case rel => exact ⟨_,((a0_0 == 7)),oE,H',⟨by have:=HJ1.out;first | omega | exact Nat.le_refl _⟩,⟨oB BK101.out⟩,⟨oL⟩⟩
           ·
            rw [if_neg c38] at H;obtain ⟨c38b0,c38b1⟩:=eF c38;have H':=aS H;clear H
            as_aux_lemma =>
             go_wp2;go_meet;case rel => exact ⟨_,((a0_0 == 8)),oE,H',⟨by have:=HJ1.out;first | omega | exact Nat.le_refl _⟩,⟨oB BK101.out⟩,⟨oL⟩⟩
     case rest =>
      as_aux_lemma =>
       clear HC31;obtain ⟨kq,x52_30,rfl,HA,HJ30,BK101,HB⟩:=hcut;cases kq with
       | zero => exact absurd HA.out (by simp [spec_GoodIns.j1])
       | succ kj30 =>
        have H:=HA.out;clear HA;simp only [spec_GoodIns.j1] at H;by_cases c39 : x52_30 = true
        ·
         subst c39;replace H:=iT H;by_cases c40 : a0_6 = 0
         ·
          rw [if_pos c40] at H;obtain ⟨c40b0,c40b1⟩:=eT c40;clear c40;by_cases c41 : (a0_1 == 2) = true
          ·
           rw [if_pos c41] at H;have c41b0 : (a0_1 == 2) = true:=c41;(try (have c41b1 : decide (a0_1 = 2) = true:=by simpa using c41));(try (have c41b2 : (a0_1 == 2) = true:=by simpa using c41));clear c41;obtain rfl:=Option.some.inj H;refine zz7 BK101.out ?_;intros
           as_aux_lemma =>
            go_wp2;go_ret;exact ⟨oE,oL⟩
          ·
           rw [if_neg c41] at H;have c41b0 : (a0_1 == 2) = false:=by simpa using c41
           (try (have c41b1 : decide (a0_1 = 2) = false:=by simpa using c41));(try (have c41b2 : (a0_1 == 2) = false:=by simpa using c41));(try (have c41b3 : ¬ (a0_1 = 2):=by simpa using c41));clear c41;obtain rfl:=Option.some.inj H;refine zz7 BK101.out ?_;intros
           as_aux_lemma =>
            go_wp2;go_ret;exact ⟨oE,oL⟩
         ·
          rw [if_neg c40] at H;obtain ⟨c40b0,c40b1⟩:=eF c40;obtain rfl:=Option.some.inj H;refine zz7 BK101.out ?_;intros
          as_aux_lemma =>
           go_wp2;go_ret;exact ⟨oE,oL⟩
        ·
         replace c39:=Bool.eq_false_iff.mpr c39;subst c39;replace H:=iF H;by_cases c45 : a0_0 = 2
         ·
          rw [if_pos c45] at H;obtain ⟨c45b0,c45b1⟩:=eT c45;clear c45;by_cases c46 : a0_6 = 0
          ·
           rw [if_pos c46] at H;obtain ⟨c46b0,c46b1⟩:=eT c46;clear c46;by_cases c47 : a0_3 = 0
           ·
            rw [if_pos c47] at H;obtain ⟨c47b0,c47b1⟩:=eT c47;clear c47;obtain rfl:=Option.some.inj H;refine zz7 BK101.out ?_;intros
            as_aux_lemma =>
             go_wp2;go_ret;exact ⟨oE,oL⟩
           ·
            rw [if_neg c47] at H;obtain ⟨c47b0,c47b1⟩:=eF c47;obtain ⟨t106,A49,H⟩:=bA_ H;obtain rfl:=Option.some.inj H;refine zz7 BK101.out ?_;intros
            as_aux_lemma =>
             go_wp2_with (first | (go_at_call 61;(with_reducible refine (spec_l7Memory.calls a0_3 t106 _ A49.out).mono ?_);rintro e w' ⟨rfl,⟨nd,rfl⟩⟩));go_ret;exact ⟨oE,oL⟩
          ·
           rw [if_neg c46] at H;obtain ⟨c46b0,c46b1⟩:=eF c46;obtain rfl:=Option.some.inj H;refine zz7 BK101.out ?_;intros
           as_aux_lemma =>
            go_wp2;go_ret;exact ⟨oE,oL⟩
         ·
          rw [if_neg c45] at H;obtain ⟨c45b0,c45b1⟩:=eF c45;by_cases c52 : a0_0 = 9
          ·
           rw [if_pos c52] at H;obtain ⟨c52b0,c52b1⟩:=eT c52;clear c52;by_cases c53 : (a0_1 == 2) = true
           ·
            rw [if_pos c53] at H;have c53b0 : (a0_1 == 2) = true:=c53;(try (have c53b1 : decide (a0_1 = 2) = true:=by simpa using c53));(try (have c53b2 : (a0_1 == 2) = true:=by simpa using c53));clear c53;obtain rfl:=Option.some.inj H;refine zz7 BK101.out ?_;intros
            as_aux_lemma =>
             go_wp2;go_ret;exact ⟨oE,oL⟩
           ·
            rw [if_neg c53] at H;have c53b0 : (a0_1 == 2) = false:=by simpa using c53
            (try (have c53b1 : decide (a0_1 = 2) = false:=by simpa using c53));(try (have c53b2 : (a0_1 == 2) = false:=by simpa using c53));(try (have c53b3 : ¬ (a0_1 = 2):=by simpa using c53));clear c53;obtain rfl:=Option.some.inj H
            as_aux_lemma =>
             go_wp2;go_ret;exact ⟨oE,oL⟩
          ·
           rw [if_neg c52] at H;obtain ⟨c52b0,c52b1⟩:=eF c52;by_cases c55 : a0_0 = 10
           ·
            rw [if_pos c55] at H;obtain ⟨c55b0,c55b1⟩:=eT c55;clear c55;by_cases c56 : (a0_1 == 2) = true
            ·
             rw [if_pos c56] at H;have c56b0 : (a0_1 == 2) = true:=c56;(try (have c56b1 : decide (a0_1 = 2) = true:=by simpa using c56));(try (have c56b2 : (a0_1 == 2) = true:=by simpa using c56));clear c56;by_cases c57 : a0_6 = 0
             ·
              rw [if_pos c57] at H;obtain ⟨c57b0,c57b1⟩:=eT c57;clear c57;obtain ⟨t107,A58,H⟩:=bA_ H;obtain rfl:=Option.some.inj H;refine zz7 BK101.out ?_;intros
              as_aux_lemma =>
               go_wp2_with (first | (go_at_call 62;(with_reducible refine (spec_l7Plain.calls a0_3 t107 _ A58.out).mono ?_);rintro e w' ⟨rfl,⟨nd,rfl⟩⟩));go_ret;exact ⟨oE,oL⟩
             ·
              rw [if_neg c57] at H;obtain ⟨c57b0,c57b1⟩:=eF c57;obtain rfl:=Option.some.inj H;refine zz7 BK101.out ?_;intros
              as_aux_lemma =>
               go_wp2;go_ret;exact ⟨oE,oL⟩
            ·
             rw [if_neg c56] at H;have c56b0 : (a0_1 == 2) = false:=by simpa using c56
             (try (have c56b1 : decide (a0_1 = 2) = false:=by simpa using c56));(try (have c56b2 : (a0_1 == 2) = false:=by simpa using c56));(try (have c56b3 : ¬ (a0_1 = 2):=by simpa using c56));clear c56;obtain rfl:=Option.some.inj H
             as_aux_lemma =>
              go_wp2;go_ret;exact ⟨oE,oL⟩
           ·
            rw [if_neg c55] at H;obtain ⟨c55b0,c55b1⟩:=eF c55;by_cases c61 : a0_0 = 11
            ·
             rw [if_pos c61] at H;obtain ⟨c61b0,c61b1⟩:=eT c61;clear c61;by_cases c62 : a0_2 = 0
             ·
              rw [if_pos c62] at H;obtain ⟨c62b0,c62b1⟩:=eT c62;clear c62;by_cases c63 : a0_6 ≤ 3
              ·
               rw [if_pos c63] at H;have c63b0:=decide_eq_true c63;clear c63;by_cases c64 : a0_3 = 0
               ·
                rw [if_pos c64] at H;obtain ⟨c64b0,c64b1⟩:=eT c64;clear c64;obtain rfl:=Option.some.inj H;refine zz7 BK101.out ?_;intros
                as_aux_lemma =>
                 go_wp2;go_ret;exact ⟨oE,oL⟩
               ·
                rw [if_neg c64] at H;obtain ⟨c64b0,c64b1⟩:=eF c64;obtain ⟨t108,A66,H⟩:=bA_ H;obtain rfl:=Option.some.inj H;refine zz7 BK101.out ?_;intros
                as_aux_lemma =>
                 go_wp2_with (first | (go_at_call 61;(with_reducible refine (spec_l7Memory.calls a0_3 t108 _ A66.out).mono ?_);rintro e w' ⟨rfl,⟨nd,rfl⟩⟩));go_ret;exact ⟨oE,oL⟩
              ·
               rw [if_neg c63] at H;have c63b0:=decide_eq_false c63;clear c63;obtain rfl:=Option.some.inj H;refine zz7 BK101.out ?_;intros
               as_aux_lemma =>
                go_wp2;go_ret;exact ⟨oE,oL⟩
             ·
              rw [if_neg c62] at H;obtain ⟨c62b0,c62b1⟩:=eF c62;obtain rfl:=Option.some.inj H;refine zz7 BK101.out ?_;intros
              as_aux_lemma =>
               go_wp2;go_ret;exact ⟨oE,oL⟩
            ·
             rw [if_neg c61] at H;obtain ⟨c61b0,c61b1⟩:=eF c61;by_cases c70 : a0_0 = 12
             ·
              rw [if_pos c70] at H;obtain ⟨c70b0,c70b1⟩:=eT c70;clear c70;obtain rfl:=Option.some.inj H
              as_aux_lemma =>
               go_wp2;go_ret;exact ⟨oE,oL⟩
             ·
              rw [if_neg c70] at H;obtain ⟨c70b0,c70b1⟩:=eF c70;by_cases c71 : a0_0 = 13
              ·
               rw [if_pos c71] at H;obtain ⟨c71b0,c71b1⟩:=eT c71;clear c71;by_cases c72 : (a0_1 == 2) = true
               ·
                rw [if_pos c72] at H;have c72b0 : (a0_1 == 2) = true:=c72;(try (have c72b1 : decide (a0_1 = 2) = true:=by simpa using c72));(try (have c72b2 : (a0_1 == 2) = true:=by simpa using c72));clear c72;by_cases c73 : a0_2 ≤ 1
                ·
                 rw [if_pos c73] at H;have c73b0:=decide_eq_true c73;clear c73;obtain rfl:=Option.some.inj H;refine zz7 BK101.out ?_;intros
                 as_aux_lemma =>
                  go_wp2;go_ret;exact ⟨oE,oL⟩
                ·
                 rw [if_neg c73] at H;have c73b0:=decide_eq_false c73;clear c73;obtain rfl:=Option.some.inj H;refine zz7 BK101.out ?_;intros
                 as_aux_lemma =>
                  go_wp2;go_ret;exact ⟨oE,oL⟩
               ·
                rw [if_neg c72] at H;have c72b0 : (a0_1 == 2) = false:=by simpa using c72
                (try (have c72b1 : decide (a0_1 = 2) = false:=by simpa using c72));(try (have c72b2 : (a0_1 == 2) = false:=by simpa using c72));(try (have c72b3 : ¬ (a0_1 = 2):=by simpa using c72));clear c72;obtain rfl:=Option.some.inj H
                as_aux_lemma =>
                 go_wp2;go_ret;exact ⟨oE,oL⟩
              ·
               rw [if_neg c71] at H;obtain ⟨c71b0,c71b1⟩:=eF c71;by_cases c76 : a0_0 = 14
               ·
                rw [if_pos c76] at H;obtain ⟨c76b0,c76b1⟩:=eT c76;clear c76;by_cases c77 : (a0_1 == 2) = true
                ·
                 rw [if_pos c77] at H;have c77b0 : (a0_1 == 2) = true:=c77;(try (have c77b1 : decide (a0_1 = 2) = true:=by simpa using c77));(try (have c77b2 : (a0_1 == 2) = true:=by simpa using c77));clear c77;by_cases c78 : a0_2 = 0
                 ·
                  rw [if_pos c78] at H;obtain ⟨c78b0,c78b1⟩:=eT c78;clear c78;by_cases c79 : a0_6 ≤ 1
                  ·
                   rw [if_pos c79] at H;have c79b0:=decide_eq_true c79;clear c79;obtain ⟨t109,A80,H⟩:=bA_ H;obtain rfl:=Option.some.inj H;refine zz7 BK101.out ?_;intros
                   as_aux_lemma =>
                    go_wp2_with (first | (go_at_call 62;(with_reducible refine (spec_l7Plain.calls a0_3 t109 _ A80.out).mono ?_);rintro e w' ⟨rfl,⟨nd,rfl⟩⟩));go_ret;exact ⟨oE,oL⟩
                  ·
                   rw [if_neg c79] at H;have c79b0:=decide_eq_false c79;clear c79;obtain rfl:=Option.some.inj H;refine zz7 BK101.out ?_;intros
                   as_aux_lemma =>
                    go_wp2;go_ret;exact ⟨oE,oL⟩
                 ·
                  rw [if_neg c78] at H;obtain ⟨c78b0,c78b1⟩:=eF c78;obtain rfl:=Option.some.inj H;refine zz7 BK101.out ?_;intros
                  as_aux_lemma =>
                   go_wp2;go_ret;exact ⟨oE,oL⟩
                ·
                 rw [if_neg c77] at H;have c77b0 : (a0_1 == 2) = false:=by simpa using c77
                 (try (have c77b1 : decide (a0_1 = 2) = false:=by simpa using c77));(try (have c77b2 : (a0_1 == 2) = false:=by simpa using c77));(try (have c77b3 : ¬ (a0_1 = 2):=by simpa using c77));clear c77;obtain rfl:=Option.some.inj H
                 as_aux_lemma =>
                  go_wp2;go_ret;exact ⟨oE,oL⟩
               ·
                rw [if_neg c76] at H;obtain ⟨c76b0,c76b1⟩:=eF c76;have HC84:=aS H;clear H;go_upto_if 154 with (fail);go_cut [154] (fun v154 wc => ∃ (kq : Nat) (x154_83 : Bool),v154 = .bool x154_83 ∧ Aside0 (spec_GoodIns.j2 kq (a0_1 == 2) a0_3 a0_0 x154_83 a0_0 a0_1 a0_2 a0_3 a0_4 a0_5 a0_6 = some r) ∧ Aside0 (kq ≤ kj30) ∧ Aside0 (wc.heap[gb101]? = some (.cells #[.int .i64 a0_0,.int .i64 a0_1,.int .i64 a0_2,.int .i64 a0_3,.int .i64 a0_4,.int .i64 a0_5,.int .i64 a0_6] 68 (0,0))) ∧ Aside0 (Below w.heap.size w wc))
                case first =>
                 have H:=HC84.out;clear HC84;by_cases c85 : a0_0 = 16
                 ·
                  rw [if_pos c85] at H;obtain ⟨c85b0,c85b1⟩:=eT c85;clear c85;(first | rw [c85b0] | (simp only [i64_w,i32_w];rw [c85b0]) | skip);have H':=aS H;clear H
                  as_aux_lemma =>
                   go_wp2;go_meet;case rel => exact ⟨_,((a0_0 == 16)),oE,H',⟨by have:=HJ1.out;have:=HJ30.out;first | omega | exact Nat.le_refl _⟩,⟨oB BK101.out⟩,⟨oL⟩⟩
                 ·
                  rw [if_neg c85] at H;obtain ⟨c85b0,c85b1⟩:=eF c85;(first | rw [c85b0] | (simp only [i64_w,i32_w];rw [c85b0]) | skip);have H':=aS H;clear H
                  as_aux_lemma =>
                   go_wp2;go_meet;case rel => exact ⟨_,((a0_0 == 17)),oE,H',⟨by have:=HJ1.out;have:=HJ30.out;first | omega | exact Nat.le_refl _⟩,⟨oB BK101.out⟩,⟨oL⟩⟩
                case rest =>
                 as_aux_lemma =>
                  clear HC84;obtain ⟨kq,x154_83,rfl,HA,HJ83,BK101,HB⟩:=hcut
                  cases kq with
                  | zero => exact absurd HA.out (by simp [spec_GoodIns.j2])
                  | succ kj83 =>
                   have H:=HA.out;clear HA;simp only [spec_GoodIns.j2] at H;by_cases c86 : x154_83 = true
                   ·
                    subst c86;replace H:=iT H;by_cases c87 : (a0_1 == 2) = true
                    ·
                     rw [if_pos c87] at H;have c87b0 : (a0_1 == 2) = true:=c87;(try (have c87b1 : decide (a0_1 = 2) = true:=by simpa using c87));(try (have c87b2 : (a0_1 == 2) = true:=by simpa using c87));clear c87;by_cases c88 : a0_6 = 0
                     ·
                      rw [if_pos c88] at H;obtain ⟨c88b0,c88b1⟩:=eT c88;clear c88;obtain rfl:=Option.some.inj H;refine zz7 BK101.out ?_;intros
                      as_aux_lemma =>
                       go_wp2;go_ret;exact ⟨oE,oL⟩
                     ·
                      rw [if_neg c88] at H;obtain ⟨c88b0,c88b1⟩:=eF c88;obtain rfl:=Option.some.inj H;refine zz7 BK101.out ?_;intros
                      as_aux_lemma =>
                       go_wp2;go_ret;exact ⟨oE,oL⟩
                    ·
                     rw [if_neg c87] at H;have c87b0 : (a0_1 == 2) = false:=by simpa using c87
                     (try (have c87b1 : decide (a0_1 = 2) = false:=by simpa using c87));(try (have c87b2 : (a0_1 == 2) = false:=by simpa using c87));(try (have c87b3 : ¬ (a0_1 = 2):=by simpa using c87));clear c87;obtain rfl:=Option.some.inj H
                     as_aux_lemma =>
                      go_wp2;go_ret;exact ⟨oE,oL⟩
                   ·
                    replace c86:=Bool.eq_false_iff.mpr c86;subst c86;replace H:=iF H;by_cases c91 : a0_0 = 18
                    ·
                     rw [if_pos c91] at H;obtain ⟨c91b0,c91b1⟩:=eT c91;clear c91;by_cases c92 : (a0_1 == 2) = true
                     ·
                      rw [if_pos c92] at H;have c92b0 : (a0_1 == 2) = true:=c92;(try (have c92b1 : decide (a0_1 = 2) = true:=by simpa using c92));(try (have c92b2 : (a0_1 == 2) = true:=by simpa using c92));clear c92;obtain rfl:=Option.some.inj H
                      as_aux_lemma =>
                       go_wp2;go_ret;exact ⟨oE,oL⟩
                     ·
                      rw [if_neg c92] at H;have c92b0 : (a0_1 == 2) = false:=by simpa using c92
                      (try (have c92b1 : decide (a0_1 = 2) = false:=by simpa using c92));(try (have c92b2 : (a0_1 == 2) = false:=by simpa using c92));(try (have c92b3 : ¬ (a0_1 = 2):=by simpa using c92));clear c92;by_cases c93 : a0_6 ≤ 1
                      ·
                       rw [if_pos c93] at H;have c93b0:=decide_eq_true c93;clear c93;obtain rfl:=Option.some.inj H;refine zz7 BK101.out ?_;intros
                       as_aux_lemma =>
                        go_wp2;go_ret;exact ⟨oE,oL⟩
                      ·
                       rw [if_neg c93] at H;have c93b0:=decide_eq_false c93;clear c93;obtain rfl:=Option.some.inj H;refine zz7 BK101.out ?_;intros
                       as_aux_lemma =>
                        go_wp2;go_ret;exact ⟨oE,oL⟩
                    ·
                     rw [if_neg c91] at H;obtain ⟨c91b0,c91b1⟩:=eF c91;by_cases c96 : a0_0 = 19
                     ·
                      rw [if_pos c96] at H;obtain ⟨c96b0,c96b1⟩:=eT c96;clear c96;by_cases c97 : (a0_1 == 2) = true
                      ·
                       rw [if_pos c97] at H;have c97b0 : (a0_1 == 2) = true:=c97;(try (have c97b1 : decide (a0_1 = 2) = true:=by simpa using c97));(try (have c97b2 : (a0_1 == 2) = true:=by simpa using c97));clear c97;by_cases c98 : a0_6 = 0
                       ·
                        rw [if_pos c98] at H;obtain ⟨c98b0,c98b1⟩:=eT c98;clear c98;by_cases c99 : a0_2 = 0
                        ·
                         rw [if_pos c99] at H;obtain ⟨c99b0,c99b1⟩:=eT c99;clear c99;obtain ⟨t110,A100,H⟩:=bA_ H;by_cases c101 : t110 = true
                         ·
                          subst c101;replace H:=iT H;obtain rfl:=Option.some.inj H;refine zz7 BK101.out ?_;intros
                          as_aux_lemma =>
                           go_wp2_with (first | (go_at_call 63;(with_reducible refine (spec_l7Now.calls a0_3 a0_4 a0_5 true _ A100.out).mono ?_);rintro e w103 ⟨rfl,hb⟩;refine mk2 (xB BK101 hb) (xL hb) ?_;clear BK101 HB;intro BK101 HB));go_ret;exact ⟨oE,oL⟩
                         ·
                          replace c101:=Bool.eq_false_iff.mpr c101;subst c101;replace H:=iF H;by_cases c104 : a0_6 = 1
                          ·
                           rw [if_pos c104] at H;obtain ⟨c104b0,c104b1⟩:=eT c104;clear c104;obtain ⟨t111,A105,H⟩:=bA_ H;obtain rfl:=Option.some.inj H;refine zz7 BK101.out ?_;intros
                           as_aux_lemma =>
                            go_wp2_with (first | (go_at_call 63;(with_reducible refine (spec_l7Now.calls a0_3 a0_4 a0_5 false _ A100.out).mono ?_);rintro e w107 ⟨rfl,hb⟩;refine mk2 (xB BK101 hb) (xL hb) ?_;clear BK101 HB;intro BK101 HB;refine zz7 BK101.out ?_;intros) | (go_at_call 64;(with_reducible refine (spec_l7Zero.calls a0_3 a0_4 a0_5 t111 _ A105.out).mono ?_);rintro e w109 ⟨rfl,hb⟩;refine mk2 (xB BK101 hb) (xL hb) ?_;clear BK101 HB;intro BK101 HB));go_ret;exact ⟨oE,oL⟩
                          ·
                           rw [if_neg c104] at H;obtain ⟨c104b0,c104b1⟩:=eF c104;obtain rfl:=Option.some.inj H;refine zz7 BK101.out ?_;intros
                           as_aux_lemma =>
                            go_wp2_with (first | (go_at_call 63;(with_reducible refine (spec_l7Now.calls a0_3 a0_4 a0_5 false _ A100.out).mono ?_);rintro e w111 ⟨rfl,hb⟩;refine mk2 (xB BK101 hb) (xL hb) ?_;clear BK101 HB;intro BK101 HB;refine zz7 BK101.out ?_;intros));go_ret;exact ⟨oE,oL⟩
                        ·
                         rw [if_neg c99] at H;obtain ⟨c99b0,c99b1⟩:=eF c99;by_cases c113 : a0_6 = 1
                         ·
                          rw [if_pos c113] at H;obtain ⟨c113b0,c113b1⟩:=eT c113;clear c113;obtain ⟨t112,A114,H⟩:=bA_ H;obtain rfl:=Option.some.inj H;refine zz7 BK101.out ?_;intros
                          as_aux_lemma =>
                           go_wp2_with (first | (go_at_call 64;(with_reducible refine (spec_l7Zero.calls a0_3 a0_4 a0_5 t112 _ A114.out).mono ?_);rintro e w116 ⟨rfl,hb⟩;refine mk2 (xB BK101 hb) (xL hb) ?_;clear BK101 HB;intro BK101 HB));go_ret;exact ⟨oE,oL⟩
                         ·
                          rw [if_neg c113] at H;obtain ⟨c113b0,c113b1⟩:=eF c113;obtain rfl:=Option.some.inj H;refine zz7 BK101.out ?_;intros
                          as_aux_lemma =>
                           go_wp2;go_ret;exact ⟨oE,oL⟩
                       ·
                        rw [if_neg c98] at H;obtain ⟨c98b0,c98b1⟩:=eF c98;by_cases c118 : a0_6 = 1
                        ·
                         rw [if_pos c118] at H;obtain ⟨c118b0,c118b1⟩:=eT c118;clear c118;obtain ⟨t113,A119,H⟩:=bA_ H;obtain rfl:=Option.some.inj H;refine zz7 BK101.out ?_;intros
                         as_aux_lemma =>
                          go_wp2_with (first | (go_at_call 64;(with_reducible refine (spec_l7Zero.calls a0_3 a0_4 a0_5 t113 _ A119.out).mono ?_);rintro e w121 ⟨rfl,hb⟩;refine mk2 (xB BK101 hb) (xL hb) ?_;clear BK101 HB;intro BK101 HB));go_ret;exact ⟨oE,oL⟩
                        ·
                         rw [if_neg c118] at H;obtain ⟨c118b0,c118b1⟩:=eF c118;obtain rfl:=Option.some.inj H;refine zz7 BK101.out ?_;intros
                         as_aux_lemma =>
                          go_wp2;go_ret;exact ⟨oE,oL⟩
                      ·
                       rw [if_neg c97] at H;have c97b0 : (a0_1 == 2) = false:=by simpa using c97
                       (try (have c97b1 : decide (a0_1 = 2) = false:=by simpa using c97));(try (have c97b2 : (a0_1 == 2) = false:=by simpa using c97));(try (have c97b3 : ¬ (a0_1 = 2):=by simpa using c97));clear c97;obtain rfl:=Option.some.inj H
                       as_aux_lemma =>
                        go_wp2;go_ret;exact ⟨oE,oL⟩
                     ·
                      rw [if_neg c96] at H;obtain ⟨c96b0,c96b1⟩:=eF c96;by_cases c123 : a0_0 = 15
                      ·
                       rw [if_pos c123] at H;obtain ⟨c123b0,c123b1⟩:=eT c123;clear c123;by_cases c124 : a0_6 = 3
                       ·
                        rw [if_pos c124] at H;obtain ⟨c124b0,c124b1⟩:=eT c124;clear c124;by_cases c125 : (a0_1 == 2) = true
                        ·
                         rw [if_pos c125] at H;have c125b0 : (a0_1 == 2) = true:=c125;(try (have c125b1 : decide (a0_1 = 2) = true:=by simpa using c125));(try (have c125b2 : (a0_1 == 2) = true:=by simpa using c125));clear c125;by_cases c126 : a0_2 = 0
                         ·
                          rw [if_pos c126] at H;obtain ⟨c126b0,c126b1⟩:=eT c126;clear c126;obtain ⟨t114,A127,H⟩:=bA_ H;obtain rfl:=Option.some.inj H;refine zz7 BK101.out ?_;intros
                          as_aux_lemma =>
                           go_wp2_with (first | (go_at_call 63;(with_reducible refine (spec_l7Now.calls a0_3 a0_4 a0_5 t114 _ A127.out).mono ?_);rintro e w129 ⟨rfl,hb⟩;refine mk2 (xB BK101 hb) (xL hb) ?_;clear BK101 HB;intro BK101 HB));go_ret;exact ⟨oE,oL⟩
                         ·
                          rw [if_neg c126] at H;obtain ⟨c126b0,c126b1⟩:=eF c126;obtain rfl:=Option.some.inj H;refine zz7 BK101.out ?_;intros
                          as_aux_lemma =>
                           go_wp2;go_ret;exact ⟨oE,oL⟩
                        ·
                         rw [if_neg c125] at H;have c125b0 : (a0_1 == 2) = false:=by simpa using c125
                         (try (have c125b1 : decide (a0_1 = 2) = false:=by simpa using c125));(try (have c125b2 : (a0_1 == 2) = false:=by simpa using c125));(try (have c125b3 : ¬ (a0_1 = 2):=by simpa using c125));clear c125;obtain rfl:=Option.some.inj H;refine zz7 BK101.out ?_;intros
                         as_aux_lemma =>
                          go_wp2;go_ret;exact ⟨oE,oL⟩
                       ·
                        rw [if_neg c124] at H;obtain ⟨c124b0,c124b1⟩:=eF c124;by_cases c132 : (a0_1 == 2) = true
                        ·
                         rw [if_pos c132] at H;have c132b0 : (a0_1 == 2) = true:=c132;(try (have c132b1 : decide (a0_1 = 2) = true:=by simpa using c132));(try (have c132b2 : (a0_1 == 2) = true:=by simpa using c132));clear c132;by_cases c133 : a0_6 ≤ 6
                         ·
                          rw [if_pos c133] at H;have c133b0:=decide_eq_true c133;clear c133;obtain ⟨t115,A134,H⟩:=bA_ H;by_cases c135 : t115 = true
                          ·
                           subst c135;replace H:=iT H;by_cases c136 : a0_6 > 3
                           ·
                            rw [if_pos c136] at H;have c136b0:=decide_eq_true c136;clear c136;obtain rfl:=Option.some.inj H;refine zz7 BK101.out ?_;intros
                            as_aux_lemma =>
                             go_wp2_with (first | (go_at_call 64;(with_reducible refine (spec_l7Zero.calls a0_3 a0_4 a0_5 true _ A134.out).mono ?_);rintro e w138 ⟨rfl,hb⟩;refine mk2 (xB BK101 hb) (xL hb) ?_;clear BK101 HB;intro BK101 HB;refine zz7 BK101.out ?_;intros));go_ret;exact ⟨oE,oL⟩
                           ·
                            rw [if_neg c136] at H;have c136b0:=decide_eq_false c136;clear c136;obtain rfl:=Option.some.inj H;refine zz7 BK101.out ?_;intros
                            as_aux_lemma =>
                             go_wp2_with (first | (go_at_call 64;(with_reducible refine (spec_l7Zero.calls a0_3 a0_4 a0_5 true _ A134.out).mono ?_);rintro e w141 ⟨rfl,hb⟩;refine mk2 (xB BK101 hb) (xL hb) ?_;clear BK101 HB;intro BK101 HB;refine zz7 BK101.out ?_;intros));go_ret;exact ⟨oE,oL⟩
                          ·
                           replace c135:=Bool.eq_false_iff.mpr c135;subst c135;replace H:=iF H;obtain rfl:=Option.some.inj H;refine zz7 BK101.out ?_;intros
                           as_aux_lemma =>
                            go_wp2_with (first | (go_at_call 64;(with_reducible refine (spec_l7Zero.calls a0_3 a0_4 a0_5 false _ A134.out).mono ?_);rintro e w144 ⟨rfl,hb⟩;refine mk2 (xB BK101 hb) (xL hb) ?_;clear BK101 HB;intro BK101 HB));go_ret;exact ⟨oE,oL⟩
                         ·
                          rw [if_neg c133] at H;have c133b0:=decide_eq_false c133;clear c133;obtain rfl:=Option.some.inj H;refine zz7 BK101.out ?_;intros
                          as_aux_lemma =>
                           go_wp2;go_ret;exact ⟨oE,oL⟩
                        ·
                         rw [if_neg c132] at H;have c132b0 : (a0_1 == 2) = false:=by simpa using c132
                         (try (have c132b1 : decide (a0_1 = 2) = false:=by simpa using c132));(try (have c132b2 : (a0_1 == 2) = false:=by simpa using c132));(try (have c132b3 : ¬ (a0_1 = 2):=by simpa using c132));clear c132;obtain rfl:=Option.some.inj H;refine zz7 BK101.out ?_;intros
                         as_aux_lemma =>
                          go_wp2;go_ret;exact ⟨oE,oL⟩
                      ·
                       rw [if_neg c123] at H;obtain ⟨c123b0,c123b1⟩:=eF c123;obtain rfl:=Option.some.inj H
                       as_aux_lemma =>
                        go_wp2;go_ret;exact ⟨oE,oL⟩
end Go.Proofs.YtjnifnhpnccpcaaGreat.J
