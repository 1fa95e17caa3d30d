-- Made by this session's program gprint.py out of the translation. Not trusted: Lean checks it.
import Derived.Test.YtjnifnhpnccpcaaGreatJx0
import Derived.Test.YtjnifnhpnccpcaaGreatJx1
import Derived.Test.YtjnifnhpnccpcaaGreatJx17
namespace Go.Proofs.YtjnifnhpnccpcaaGreat.J
open Go.RowKit Go.Proofs.YtjnifnhpnccpcaaGreatW.PrintWords Go.Proofs.YtjnifnhpnccpcaaGreatW.PrintLast Go.Proofs.YtjnifnhpnccpcaaGreatW.PrintMore
attribute [local go_sem] max2_int min2_int max_two min_two max_three min_three max_four min_four
set_option linter.unusedVariables false
set_option linter.unusedSimpArgs false
attribute [local go_sem high] eqA66
mutual
def impl_isKind.j0 : Nat → Int → Bool → Int → Bool → Int → Int → Int → Int → Int → Int → Int → Option (Bool)
 | 0,_,_,_,_,_,_,_,_,_,_,_ => none
 | k + 1,x3,x4,x12,x13,x102000,x102001,x102002,x102003,x102004,x102005,x102006 => if x13 = true then (if x102006 = 0 then (if x3 = 1 then (some x4) else (some true)) else (some false)) else (if x12 = 2 then (if x102006 = 0 then ((impl_isSettable.f x3).bind fun t102 => (some t102)) else (some false)) else (if x12 = 9 then (if x4 = true then (some (x102006 == 0)) else (some false)) else (if x12 = 10 then (if x4 = true then (if x102006 = 0 then ((impl_isPlain.f x3).bind fun t103 => (some t103)) else (some false)) else (some false)) else (if x12 = 11 then (if x102002 = 0 then (if x102006 ≤ 3 then ((impl_isSettable.f x3).bind fun t104 => (some t104)) else (some false)) else (some false)) else (if x12 = 12 then (some (x3 == 0)) else (if x12 = 13 then (if x4 = true then (if x102002 ≤ 1 then (some (x3 == 7)) else (some false)) else (some false)) else (if x12 = 14 then (if x4 = true then (if x102002 = 0 then (if x102006 ≤ 1 then ((impl_isPlain.f x3).bind fun t105 => (some t105)) else (some false)) else (some false)) else (some false)) else (if x12 = 15 then ((impl_isFlow.f k x102000 x102001 x102002 x102003 x102004 x102005 x102006).bind fun t106 => (some t106)) else (if x12 = 16 then (impl_isKind.j1 k x3 x4 x12 (x12 == 16) x102000 x102001 x102002 x102003 x102004 x102005 x102006) else (impl_isKind.j1 k x3 x4 x12 (x12 == 17) x102000 x102001 x102002 x102003 x102004 x102005 x102006))))))))))
def impl_isKind.j1 : Nat → Int → Bool → Int → Bool → Int → Int → Int → Int → Int → Int → Int → Option (Bool)
 | 0,_,_,_,_,_,_,_,_,_,_,_ => none
 | k + 1,x3,x4,x12,x111,x102000,x102001,x102002,x102003,x102004,x102005,x102006 => if x111 = true then (if x4 = true then (if x102006 = 0 then (some (x3 != 1)) else (some false)) else (some false)) else (if x12 = 18 then (if x4 = true then (some false) else (if x102006 ≤ 1 then (some (x3 == 0)) else (some false))) else (if x12 = 19 then (if x4 = true then (if x102006 = 0 then (if x102002 = 0 then ((impl_isNow.f x102003 x102004 x102005).bind fun t107 => (if t107 = true then (some true) else (if x102006 = 1 then (some (x102003 == 0 && (x102004 == 0 && (x102005 == 0)))) else (some false)))) else (if x102006 = 1 then (some (x102003 == 0 && (x102004 == 0 && (x102005 == 0)))) else (some false))) else (if x102006 = 1 then (some (x102003 == 0 && (x102004 == 0 && (x102005 == 0)))) else (some false))) else (some false)) else (some false)))
end
def impl_isKind.f (k : Nat) (a0_0 : Int) (a0_1 : Int) (a0_2 : Int) (a0_3 : Int) (a0_4 : Int) (a0_5 : Int) (a0_6 : Int) : Option (Bool):=if a0_0 = 1 then (impl_isKind.j0 k a0_3 (a0_1 == 2) a0_0 (a0_0 == 1) a0_0 a0_1 a0_2 a0_3 a0_4 a0_5 a0_6) else (if a0_0 = 3 then (impl_isKind.j0 k a0_3 (a0_1 == 2) a0_0 (a0_0 == 3) a0_0 a0_1 a0_2 a0_3 a0_4 a0_5 a0_6) else (if a0_0 = 4 then (impl_isKind.j0 k a0_3 (a0_1 == 2) a0_0 (a0_0 == 4) a0_0 a0_1 a0_2 a0_3 a0_4 a0_5 a0_6) else (if a0_0 = 5 then (impl_isKind.j0 k a0_3 (a0_1 == 2) a0_0 (a0_0 == 5) a0_0 a0_1 a0_2 a0_3 a0_4 a0_5 a0_6) else (if a0_0 = 6 then (impl_isKind.j0 k a0_3 (a0_1 == 2) a0_0 (a0_0 == 6) a0_0 a0_1 a0_2 a0_3 a0_4 a0_5 a0_6) else (if a0_0 = 7 then (impl_isKind.j0 k a0_3 (a0_1 == 2) a0_0 (a0_0 == 7) a0_0 a0_1 a0_2 a0_3 a0_4 a0_5 a0_6) else (impl_isKind.j0 k a0_3 (a0_1 == 2) a0_0 (a0_0 == 8) a0_0 a0_1 a0_2 a0_3 a0_4 a0_5 a0_6))))))
set_option maxHeartbeats 8000000 in
set_option maxRecDepth 100000 in
theorem impl_isKind.calls (k : Nat) (a0_0 : Int) (a0_1 : Int) (a0_2 : Int) (a0_3 : Int) (a0_4 : Int) (a0_5 : Int) (a0_6 : Int) (r : Bool) (w : World) (h : impl_isKind.f k a0_0 a0_1 a0_2 a0_3 a0_4 a0_5 a0_6 = some r) :
  Calls Tryz.prog 71 #[.agg #[.int .i64 a0_0,.int .i64 a0_1,.int .i64 a0_2,.int .i64 a0_3,.int .i64 a0_4,.int .i64 a0_5,.int .i64 a0_6]] w fun e w' => e = .returned (.bool r) ∧ Below w.heap.size w w':=by
 have hu68:=Tryz.underlying68;have hu66:=Tryz.underlying66;have HB:=aS (Below.refl w.heap.size w);unfold impl_isKind.f at h;have H:=h;clear h;have HC2:=aS H;clear H;go_enter Tryz.func71,Tryz.ntmps71;go_upto_if 13 with (first | ((with_reducible refine gD 1 rfl ?_);refine bX (w:=w) #[.int .i64 a0_0,.int .i64 a0_1,.int .i64 a0_2,.int .i64 a0_3,.int .i64 a0_4,.int .i64 a0_5,.int .i64 a0_6] 68 ?_;clear HB;intro gb101 w3 HB BK101 GW101;refine zz7 BK101.out ?_;intros));(try simp only [Act.put,List.setIfInBounds_toArray,List.set_cons_zero,List.set_cons_succ]);go_cut [13] (fun v13 wc => ∃ (kq : Nat) (x13_1 : Bool),v13 = .bool x13_1 ∧ Aside0 (impl_isKind.j0 kq a0_3 (a0_1 == 2) a0_0 x13_1 a0_0 a0_1 a0_2 a0_3 a0_4 a0_5 a0_6 = some r) ∧ Aside0 (kq ≤ k) ∧ Aside0 (wc.heap[gb101]? = some (.cells #[.int .i64 a0_0,.int .i64 a0_1,.int .i64 a0_2,.int .i64 a0_3,.int .i64 a0_4,.int .i64 a0_5,.int .i64 a0_6] 68 (0,0))) ∧ Aside0 (Below w.heap.size w wc))
 case first =>
  have H:=HC2.out;clear HC2;by_cases c5 : a0_0 = 1;{rw [if_pos c5] at H;obtain ⟨c5b0,c5b1⟩:=eT c5;clear c5;(first | rw [c5b0] | (simp only [i64_w,i32_w];rw [c5b0]) | skip);have H':=aS H;clear H;go_wp2;go_meet;case rel => exact ⟨_,((a0_0 == 1)),oE,H',⟨by first | omega | exact Nat.le_refl _⟩,⟨oB BK101.out⟩,⟨oL⟩⟩}
  ·
   rw [if_neg c5] at H;obtain ⟨c5b0,c5b1⟩:=eF c5;(first | rw [c5b0] | (simp only [i64_w,i32_w];rw [c5b0]) | skip);by_cases c6 : a0_0 = 3;{rw [if_pos c6] at H;obtain ⟨c6b0,c6b1⟩:=eT c6;clear c6;have H':=aS H;clear H;go_wp2;go_meet;case rel => exact ⟨_,((a0_0 == 3)),oE,H',⟨by first | omega | exact Nat.le_refl _⟩,⟨oB BK101.out⟩,⟨oL⟩⟩}
   ·
    rw [if_neg c6] at H;obtain ⟨c6b0,c6b1⟩:=eF c6;by_cases c7 : a0_0 = 4;{rw [if_pos c7] at H;obtain ⟨c7b0,c7b1⟩:=eT c7;clear c7;have H':=aS H;clear H;go_wp2;go_meet;case rel => exact ⟨_,((a0_0 == 4)),oE,H',⟨by first | omega | exact Nat.le_refl _⟩,⟨oB BK101.out⟩,⟨oL⟩⟩}
    ·
     rw [if_neg c7] at H;obtain ⟨c7b0,c7b1⟩:=eF c7;by_cases c8 : a0_0 = 5;{rw [if_pos c8] at H;obtain ⟨c8b0,c8b1⟩:=eT c8;clear c8;have H':=aS H;clear H;go_wp2;go_meet;case rel => exact ⟨_,((a0_0 == 5)),oE,H',⟨by first | omega | exact Nat.le_refl _⟩,⟨oB BK101.out⟩,⟨oL⟩⟩}
     ·
      rw [if_neg c8] at H;obtain ⟨c8b0,c8b1⟩:=eF c8;by_cases c9 : a0_0 = 6;{rw [if_pos c9] at H;obtain ⟨c9b0,c9b1⟩:=eT c9;clear c9;have H':=aS H;clear H;go_wp2;go_meet;case rel => exact ⟨_,((a0_0 == 6)),oE,H',⟨by first | omega | exact Nat.le_refl _⟩,⟨oB BK101.out⟩,⟨oL⟩⟩}
      ·
       rw [if_neg c9] at H;obtain ⟨c9b0,c9b1⟩:=eF c9;by_cases c10 : a0_0 = 7;{rw [if_pos c10] at H;obtain ⟨c10b0,c10b1⟩:=eT c10;clear c10;have H':=aS H;clear H;go_wp2;go_meet;case rel => exact ⟨_,((a0_0 == 7)),oE,H',⟨by first | omega | exact Nat.le_refl _⟩,⟨oB BK101.out⟩,⟨oL⟩⟩};{rw [if_neg c10] at H;obtain ⟨c10b0,c10b1⟩:=eF c10;have H':=aS H;clear H;go_wp2;go_meet;case rel => exact ⟨_,((a0_0 == 8)),oE,H',⟨by first | omega | exact Nat.le_refl _⟩,⟨oB BK101.out⟩,⟨oL⟩⟩}
 case rest =>
  clear HC2;obtain ⟨kq,x13_1,rfl,HA,HJ1,BK101,HB⟩:=hcut;cases kq with
  | zero => exact absurd HA.out (by simp [impl_isKind.j0])
  | succ kj1 =>
   have H:=HA.out;clear HA;simp only [impl_isKind.j0] at H;by_cases c11 : x13_1 = true
   ·
    subst c11;replace H:=iT H;by_cases c12 : a0_6 = 0
    ·
     rw [if_pos c12] at H;obtain ⟨c12b0,c12b1⟩:=eT c12;clear c12;by_cases c13 : a0_3 = 1;{rw [if_pos c13] at H;obtain ⟨c13b0,c13b1⟩:=eT c13;clear c13;obtain rfl:=Option.some.inj H;refine zz7 BK101.out ?_;intros;go_wp2;go_ret;exact ⟨oE,oL⟩};{rw [if_neg c13] at H;obtain ⟨c13b0,c13b1⟩:=eF c13;obtain rfl:=Option.some.inj H;refine zz7 BK101.out ?_;intros;go_wp2;go_ret;exact ⟨oE,oL⟩}
    · rw [if_neg c12] at H;obtain ⟨c12b0,c12b1⟩:=eF c12;obtain rfl:=Option.some.inj H;refine zz7 BK101.out ?_;intros;go_wp2;go_ret;exact ⟨oE,oL⟩
   ·
    replace c11:=Bool.eq_false_iff.mpr c11;subst c11;replace H:=iF H;by_cases c17 : a0_0 = 2
    ·
     rw [if_pos c17] at H;obtain ⟨c17b0,c17b1⟩:=eT c17;clear c17;by_cases c18 : a0_6 = 0
     ·
      rw [if_pos c18] at H;obtain ⟨c18b0,c18b1⟩:=eT c18;clear c18;obtain ⟨t102,A19,H⟩:=bA_ H;obtain rfl:=Option.some.inj H;refine zz7 BK101.out ?_;intros;go_wp2_with (first | (go_at_call 90;(with_reducible refine (impl_isSettable.calls a0_3 t102 _ A19.out).mono ?_);rintro e w' ⟨rfl,⟨nd,rfl⟩⟩));go_ret;exact ⟨oE,oL⟩
     · rw [if_neg c18] at H;obtain ⟨c18b0,c18b1⟩:=eF c18;obtain rfl:=Option.some.inj H;refine zz7 BK101.out ?_;intros;go_wp2;go_ret;exact ⟨oE,oL⟩
    ·
     rw [if_neg c17] at H;obtain ⟨c17b0,c17b1⟩:=eF c17;by_cases c22 : a0_0 = 9
     ·
      rw [if_pos c22] at H;obtain ⟨c22b0,c22b1⟩:=eT c22;clear c22;by_cases c23 : (a0_1 == 2) = true;{rw [if_pos c23] at H;have c23b0 : (a0_1 == 2) = true:=c23;(try (have c23b1 : decide (a0_1 = 2) = true:=by simpa using c23));(try (have c23b2 : (a0_1 == 2) = true:=by simpa using c23));clear c23;obtain rfl:=Option.some.inj H;refine zz7 BK101.out ?_;intros;go_wp2;go_ret;exact ⟨oE,oL⟩}
      ·
       rw [if_neg c23] at H;have c23b0 : (a0_1 == 2) = false:=by simpa using c23
       (try (have c23b1 : decide (a0_1 = 2) = false:=by simpa using c23));(try (have c23b2 : (a0_1 == 2) = false:=by simpa using c23));(try (have c23b3 : ¬ (a0_1 = 2):=by simpa using c23));clear c23;obtain rfl:=Option.some.inj H;go_wp2;go_ret;exact ⟨oE,oL⟩
     ·
      rw [if_neg c22] at H;obtain ⟨c22b0,c22b1⟩:=eF c22;by_cases c25 : a0_0 = 10
      ·
       rw [if_pos c25] at H;obtain ⟨c25b0,c25b1⟩:=eT c25;clear c25;by_cases c26 : (a0_1 == 2) = true
       ·
        rw [if_pos c26] at H;have c26b0 : (a0_1 == 2) = true:=c26;(try (have c26b1 : decide (a0_1 = 2) = true:=by simpa using c26));(try (have c26b2 : (a0_1 == 2) = true:=by simpa using c26));clear c26;by_cases c27 : a0_6 = 0
        ·
         rw [if_pos c27] at H;obtain ⟨c27b0,c27b1⟩:=eT c27;clear c27;obtain ⟨t103,A28,H⟩:=bA_ H;obtain rfl:=Option.some.inj H;refine zz7 BK101.out ?_;intros;go_wp2_with (first | (go_at_call 91;(with_reducible refine (impl_isPlain.calls a0_3 t103 _ A28.out).mono ?_);rintro e w' ⟨rfl,⟨nd,rfl⟩⟩));go_ret;exact ⟨oE,oL⟩
        · rw [if_neg c27] at H;obtain ⟨c27b0,c27b1⟩:=eF c27;obtain rfl:=Option.some.inj H;refine zz7 BK101.out ?_;intros;go_wp2;go_ret;exact ⟨oE,oL⟩
       ·
        rw [if_neg c26] at H;have c26b0 : (a0_1 == 2) = false:=by simpa using c26
        (try (have c26b1 : decide (a0_1 = 2) = false:=by simpa using c26));(try (have c26b2 : (a0_1 == 2) = false:=by simpa using c26));(try (have c26b3 : ¬ (a0_1 = 2):=by simpa using c26));clear c26;obtain rfl:=Option.some.inj H;go_wp2;go_ret;exact ⟨oE,oL⟩
      ·
       rw [if_neg c25] at H;obtain ⟨c25b0,c25b1⟩:=eF c25;by_cases c31 : a0_0 = 11
       ·
        rw [if_pos c31] at H;obtain ⟨c31b0,c31b1⟩:=eT c31;clear c31;by_cases c32 : a0_2 = 0
        ·
         rw [if_pos c32] at H;obtain ⟨c32b0,c32b1⟩:=eT c32;clear c32;by_cases c33 : a0_6 ≤ 3
         ·
          rw [if_pos c33] at H;have c33b0:=decide_eq_true c33;clear c33;obtain ⟨t104,A34,H⟩:=bA_ H;obtain rfl:=Option.some.inj H;refine zz7 BK101.out ?_;intros;go_wp2_with (first | (go_at_call 90;(with_reducible refine (impl_isSettable.calls a0_3 t104 _ A34.out).mono ?_);rintro e w' ⟨rfl,⟨nd,rfl⟩⟩));go_ret;exact ⟨oE,oL⟩
         · rw [if_neg c33] at H;have c33b0:=decide_eq_false c33;clear c33;obtain rfl:=Option.some.inj H;refine zz7 BK101.out ?_;intros;go_wp2;go_ret;exact ⟨oE,oL⟩
        · rw [if_neg c32] at H;obtain ⟨c32b0,c32b1⟩:=eF c32;obtain rfl:=Option.some.inj H;refine zz7 BK101.out ?_;intros;go_wp2;go_ret;exact ⟨oE,oL⟩
       ·
        rw [if_neg c31] at H;obtain ⟨c31b0,c31b1⟩:=eF c31;by_cases c38 : a0_0 = 12;{rw [if_pos c38] at H;obtain ⟨c38b0,c38b1⟩:=eT c38;clear c38;obtain rfl:=Option.some.inj H;go_wp2;go_ret;exact ⟨oE,oL⟩}
        ·
         rw [if_neg c38] at H;obtain ⟨c38b0,c38b1⟩:=eF c38;by_cases c39 : a0_0 = 13
         ·
          rw [if_pos c39] at H;obtain ⟨c39b0,c39b1⟩:=eT c39;clear c39;by_cases c40 : (a0_1 == 2) = true
          ·
           rw [if_pos c40] at H;have c40b0 : (a0_1 == 2) = true:=c40;(try (have c40b1 : decide (a0_1 = 2) = true:=by simpa using c40));(try (have c40b2 : (a0_1 == 2) = true:=by simpa using c40));clear c40;by_cases c41 : a0_2 ≤ 1;{rw [if_pos c41] at H;have c41b0:=decide_eq_true c41;clear c41;obtain rfl:=Option.some.inj H;refine zz7 BK101.out ?_;intros;go_wp2;go_ret;exact ⟨oE,oL⟩};{rw [if_neg c41] at H;have c41b0:=decide_eq_false c41;clear c41;obtain rfl:=Option.some.inj H;refine zz7 BK101.out ?_;intros;go_wp2;go_ret;exact ⟨oE,oL⟩}
          ·
           rw [if_neg c40] at H;have c40b0 : (a0_1 == 2) = false:=by simpa using c40
           (try (have c40b1 : decide (a0_1 = 2) = false:=by simpa using c40));(try (have c40b2 : (a0_1 == 2) = false:=by simpa using c40));(try (have c40b3 : ¬ (a0_1 = 2):=by simpa using c40));clear c40;obtain rfl:=Option.some.inj H;go_wp2;go_ret;exact ⟨oE,oL⟩
         ·
          rw [if_neg c39] at H;obtain ⟨c39b0,c39b1⟩:=eF c39;by_cases c44 : a0_0 = 14
          ·
           rw [if_pos c44] at H;obtain ⟨c44b0,c44b1⟩:=eT c44;clear c44;by_cases c45 : (a0_1 == 2) = true
           ·
            rw [if_pos c45] at H;have c45b0 : (a0_1 == 2) = true:=c45;(try (have c45b1 : decide (a0_1 = 2) = true:=by simpa using c45));(try (have c45b2 : (a0_1 == 2) = true:=by simpa using c45));clear c45;by_cases c46 : a0_2 = 0
            ·
             rw [if_pos c46] at H;obtain ⟨c46b0,c46b1⟩:=eT c46;clear c46;by_cases c47 : a0_6 ≤ 1
             ·
              rw [if_pos c47] at H;have c47b0:=decide_eq_true c47;clear c47;obtain ⟨t105,A48,H⟩:=bA_ H;obtain rfl:=Option.some.inj H;refine zz7 BK101.out ?_;intros;go_wp2_with (first | (go_at_call 91;(with_reducible refine (impl_isPlain.calls a0_3 t105 _ A48.out).mono ?_);rintro e w' ⟨rfl,⟨nd,rfl⟩⟩));go_ret;exact ⟨oE,oL⟩
             · rw [if_neg c47] at H;have c47b0:=decide_eq_false c47;clear c47;obtain rfl:=Option.some.inj H;refine zz7 BK101.out ?_;intros;go_wp2;go_ret;exact ⟨oE,oL⟩
            · rw [if_neg c46] at H;obtain ⟨c46b0,c46b1⟩:=eF c46;obtain rfl:=Option.some.inj H;refine zz7 BK101.out ?_;intros;go_wp2;go_ret;exact ⟨oE,oL⟩
           ·
            rw [if_neg c45] at H;have c45b0 : (a0_1 == 2) = false:=by simpa using c45
            (try (have c45b1 : decide (a0_1 = 2) = false:=by simpa using c45));(try (have c45b2 : (a0_1 == 2) = false:=by simpa using c45));(try (have c45b3 : ¬ (a0_1 = 2):=by simpa using c45));clear c45;obtain rfl:=Option.some.inj H;go_wp2;go_ret;exact ⟨oE,oL⟩
          ·
           rw [if_neg c44] at H;obtain ⟨c44b0,c44b1⟩:=eF c44;by_cases c52 : a0_0 = 15
           ·
            rw [if_pos c52] at H;obtain ⟨c52b0,c52b1⟩:=eT c52;clear c52;obtain ⟨t106,A53,H⟩:=bA_ H;obtain rfl:=Option.some.inj H;refine zz7 BK101.out ?_;intros;go_wp2_with (first | ((with_reducible refine gC 92 rfl ?_);refine gN Tryz.func92 #[.agg #[.int .i64 a0_0,.int .i64 a0_1,.int .i64 a0_2,.int .i64 a0_3,.int .i64 a0_4,.int .i64 a0_5,.int .i64 a0_6]] ?_;(with_reducible refine (impl_isFlow.calls kj1 a0_0 a0_1 a0_2 a0_3 a0_4 a0_5 a0_6 t106 _ A53.out).mono ?_);rintro e w55 ⟨rfl,hb⟩;refine ⟨_,rfl,?_⟩;refine mk2 (xB BK101 hb) (xL hb) ?_;clear BK101 HB;intro BK101 HB));go_ret;exact ⟨oE,oL⟩
           ·
            rw [if_neg c52] at H;obtain ⟨c52b0,c52b1⟩:=eF c52;have HC56:=aS H;clear H;go_upto_if 111 with (fail);go_cut [111] (fun v111 wc => ∃ (kq : Nat) (x111_55 : Bool),v111 = .bool x111_55 ∧ Aside0 (impl_isKind.j1 kq a0_3 (a0_1 == 2) a0_0 x111_55 a0_0 a0_1 a0_2 a0_3 a0_4 a0_5 a0_6 = some r) ∧ Aside0 (kq ≤ kj1) ∧ Aside0 (wc.heap[gb101]? = some (.cells #[.int .i64 a0_0,.int .i64 a0_1,.int .i64 a0_2,.int .i64 a0_3,.int .i64 a0_4,.int .i64 a0_5,.int .i64 a0_6] 68 (0,0))) ∧ Aside0 (Below w.heap.size w wc))
            case first =>
             have H:=HC56.out;clear HC56;by_cases c57 : a0_0 = 16;{rw [if_pos c57] at H;obtain ⟨c57b0,c57b1⟩:=eT c57;clear c57;(first | rw [c57b0] | (simp only [i64_w,i32_w];rw [c57b0]) | skip);have H':=aS H;clear H;go_wp2;go_meet;case rel => exact ⟨_,((a0_0 == 16)),oE,H',⟨by have:=HJ1.out;first | omega | exact Nat.le_refl _⟩,⟨oB BK101.out⟩,⟨oL⟩⟩};{rw [if_neg c57] at H;obtain ⟨c57b0,c57b1⟩:=eF c57;(first | rw [c57b0] | (simp only [i64_w,i32_w];rw [c57b0]) | skip);have H':=aS H;clear H;go_wp2;go_meet;case rel => exact ⟨_,((a0_0 == 17)),oE,H',⟨by have:=HJ1.out;first | omega | exact Nat.le_refl _⟩,⟨oB BK101.out⟩,⟨oL⟩⟩}
            case rest =>
             clear HC56;obtain ⟨kq,x111_55,rfl,HA,HJ55,BK101,HB⟩:=hcut
             cases kq with
             | zero => exact absurd HA.out (by simp [impl_isKind.j1])
             | succ kj55 =>
              have H:=HA.out;clear HA;simp only [impl_isKind.j1] at H;by_cases c58 : x111_55 = true
              ·
               subst c58;replace H:=iT H;by_cases c59 : (a0_1 == 2) = true
               ·
                rw [if_pos c59] at H;have c59b0 : (a0_1 == 2) = true:=c59;(try (have c59b1 : decide (a0_1 = 2) = true:=by simpa using c59));(try (have c59b2 : (a0_1 == 2) = true:=by simpa using c59));clear c59;by_cases c60 : a0_6 = 0;{rw [if_pos c60] at H;obtain ⟨c60b0,c60b1⟩:=eT c60;clear c60;obtain rfl:=Option.some.inj H;refine zz7 BK101.out ?_;intros;go_wp2;go_ret;exact ⟨oE,oL⟩};{rw [if_neg c60] at H;obtain ⟨c60b0,c60b1⟩:=eF c60;obtain rfl:=Option.some.inj H;refine zz7 BK101.out ?_;intros;go_wp2;go_ret;exact ⟨oE,oL⟩}
               ·
                rw [if_neg c59] at H;have c59b0 : (a0_1 == 2) = false:=by simpa using c59
                (try (have c59b1 : decide (a0_1 = 2) = false:=by simpa using c59));(try (have c59b2 : (a0_1 == 2) = false:=by simpa using c59));(try (have c59b3 : ¬ (a0_1 = 2):=by simpa using c59));clear c59;obtain rfl:=Option.some.inj H;go_wp2;go_ret;exact ⟨oE,oL⟩
              ·
               replace c58:=Bool.eq_false_iff.mpr c58;subst c58;replace H:=iF H;by_cases c63 : a0_0 = 18
               ·
                rw [if_pos c63] at H;obtain ⟨c63b0,c63b1⟩:=eT c63;clear c63;by_cases c64 : (a0_1 == 2) = true;{rw [if_pos c64] at H;have c64b0 : (a0_1 == 2) = true:=c64;(try (have c64b1 : decide (a0_1 = 2) = true:=by simpa using c64));(try (have c64b2 : (a0_1 == 2) = true:=by simpa using c64));clear c64;obtain rfl:=Option.some.inj H;go_wp2;go_ret;exact ⟨oE,oL⟩}
                ·
                 rw [if_neg c64] at H;have c64b0 : (a0_1 == 2) = false:=by simpa using c64
                 (try (have c64b1 : decide (a0_1 = 2) = false:=by simpa using c64));(try (have c64b2 : (a0_1 == 2) = false:=by simpa using c64));(try (have c64b3 : ¬ (a0_1 = 2):=by simpa using c64));clear c64;by_cases c65 : a0_6 ≤ 1;{rw [if_pos c65] at H;have c65b0:=decide_eq_true c65;clear c65;obtain rfl:=Option.some.inj H;refine zz7 BK101.out ?_;intros;go_wp2;go_ret;exact ⟨oE,oL⟩};{rw [if_neg c65] at H;have c65b0:=decide_eq_false c65;clear c65;obtain rfl:=Option.some.inj H;refine zz7 BK101.out ?_;intros;go_wp2;go_ret;exact ⟨oE,oL⟩}
               ·
                rw [if_neg c63] at H;obtain ⟨c63b0,c63b1⟩:=eF c63;by_cases c68 : a0_0 = 19
                ·
                 rw [if_pos c68] at H;obtain ⟨c68b0,c68b1⟩:=eT c68;clear c68;by_cases c69 : (a0_1 == 2) = true
                 ·
                  rw [if_pos c69] at H;have c69b0 : (a0_1 == 2) = true:=c69;(try (have c69b1 : decide (a0_1 = 2) = true:=by simpa using c69));(try (have c69b2 : (a0_1 == 2) = true:=by simpa using c69));clear c69;by_cases c70 : a0_6 = 0
                  ·
                   rw [if_pos c70] at H;obtain ⟨c70b0,c70b1⟩:=eT c70;clear c70;by_cases c71 : a0_2 = 0
                   ·
                    rw [if_pos c71] at H;obtain ⟨c71b0,c71b1⟩:=eT c71;clear c71;obtain ⟨t107,A72,H⟩:=bA_ H;by_cases c73 : t107 = true
                    ·
                     subst c73;replace H:=iT H;obtain rfl:=Option.some.inj H;refine zz7 BK101.out ?_;intros;go_wp2_with (first | (go_at_call 93;(with_reducible refine (impl_isNow.calls a0_3 a0_4 a0_5 true _ A72.out).mono ?_);rintro e w75 ⟨rfl,hb⟩;refine mk2 (xB BK101 hb) (xL hb) ?_;clear BK101 HB;intro BK101 HB));go_ret;exact ⟨oE,oL⟩
                    ·
                     replace c73:=Bool.eq_false_iff.mpr c73;subst c73;replace H:=iF H;by_cases c76 : a0_6 = 1
                     ·
                      rw [if_pos c76] at H;obtain ⟨c76b0,c76b1⟩:=eT c76;clear c76;obtain rfl:=Option.some.inj H;refine zz7 BK101.out ?_;intros;go_wp2_with (first | (go_at_call 93;(with_reducible refine (impl_isNow.calls a0_3 a0_4 a0_5 false _ A72.out).mono ?_);rintro e w78 ⟨rfl,hb⟩;refine mk2 (xB BK101 hb) (xL hb) ?_;clear BK101 HB;intro BK101 HB;refine zz7 BK101.out ?_;intros));go_ret;exact ⟨oE,oL⟩
                     ·
                      rw [if_neg c76] at H;obtain ⟨c76b0,c76b1⟩:=eF c76;obtain rfl:=Option.some.inj H;refine zz7 BK101.out ?_;intros;go_wp2_with (first | (go_at_call 93;(with_reducible refine (impl_isNow.calls a0_3 a0_4 a0_5 false _ A72.out).mono ?_);rintro e w81 ⟨rfl,hb⟩;refine mk2 (xB BK101 hb) (xL hb) ?_;clear BK101 HB;intro BK101 HB;refine zz7 BK101.out ?_;intros));go_ret;exact ⟨oE,oL⟩
                   ·
                    rw [if_neg c71] at H;obtain ⟨c71b0,c71b1⟩:=eF c71;by_cases c83 : a0_6 = 1;{rw [if_pos c83] at H;obtain ⟨c83b0,c83b1⟩:=eT c83;clear c83;obtain rfl:=Option.some.inj H;refine zz7 BK101.out ?_;intros;go_wp2;go_ret;exact ⟨oE,oL⟩};{rw [if_neg c83] at H;obtain ⟨c83b0,c83b1⟩:=eF c83;obtain rfl:=Option.some.inj H;refine zz7 BK101.out ?_;intros;go_wp2;go_ret;exact ⟨oE,oL⟩}
                  ·
                   rw [if_neg c70] at H;obtain ⟨c70b0,c70b1⟩:=eF c70;by_cases c86 : a0_6 = 1;{rw [if_pos c86] at H;obtain ⟨c86b0,c86b1⟩:=eT c86;clear c86;obtain rfl:=Option.some.inj H;refine zz7 BK101.out ?_;intros;go_wp2;go_ret;exact ⟨oE,oL⟩};{rw [if_neg c86] at H;obtain ⟨c86b0,c86b1⟩:=eF c86;obtain rfl:=Option.some.inj H;refine zz7 BK101.out ?_;intros;go_wp2;go_ret;exact ⟨oE,oL⟩}
                 ·
                  rw [if_neg c69] at H;have c69b0 : (a0_1 == 2) = false:=by simpa using c69
                  (try (have c69b1 : decide (a0_1 = 2) = false:=by simpa using c69));(try (have c69b2 : (a0_1 == 2) = false:=by simpa using c69));(try (have c69b3 : ¬ (a0_1 = 2):=by simpa using c69));clear c69;obtain rfl:=Option.some.inj H;go_wp2;go_ret;exact ⟨oE,oL⟩
                · rw [if_neg c68] at H;obtain ⟨c68b0,c68b1⟩:=eF c68;obtain rfl:=Option.some.inj H;go_wp2;go_ret;exact ⟨oE,oL⟩
def impl_GoodIns.f (k : Nat) (a0_0 : Int) (a0_1 : Int) (a0_2 : Int) (a0_3 : Int) (a0_4 : Int) (a0_5 : Int) (a0_6 : Int) : Option (Bool):=(impl_isSize.f a0_1).bind fun t102 => (if t102 = true then ((impl_within.f a0_2 0 3).bind fun t103 => (if t103 = true then ((impl_within.f a0_6 0 7).bind fun t104 => (if t104 = true then ((impl_GoodOperand.f a0_3 a0_4 a0_5).bind fun t105 => (if t105 = true then (if a0_3 = 7 then (if a0_1 = 1 then (if a0_5 > 255 then (some false) else ((impl_isKind.f k a0_0 a0_1 a0_2 a0_3 a0_4 a0_5 a0_6).bind fun t106 => (some t106))) else ((impl_isKind.f k a0_0 a0_1 a0_2 a0_3 a0_4 a0_5 a0_6).bind fun t107 => (some t107))) else ((impl_isKind.f k a0_0 a0_1 a0_2 a0_3 a0_4 a0_5 a0_6).bind fun t108 => (some t108))) else (some false))) else (some false))) else (some false))) else (some false))
set_option maxHeartbeats 8000000 in
set_option maxRecDepth 100000 in
theorem impl_GoodIns.calls (k : Nat) (a0_0 : Int) (a0_1 : Int) (a0_2 : Int) (a0_3 : Int) (a0_4 : Int) (a0_5 : Int) (a0_6 : Int) (r : Bool) (w : World) (h : impl_GoodIns.f k a0_0 a0_1 a0_2 a0_3 a0_4 a0_5 a0_6 = some r) :
  Calls Tryz.prog 47 #[.agg #[.int .i64 a0_0,.int .i64 a0_1,.int .i64 a0_2,.int .i64 a0_3,.int .i64 a0_4,.int .i64 a0_5,.int .i64 a0_6]] w fun e w' => e = .returned (.bool r) ∧ Below w.heap.size w w':=by
 have hu68:=Tryz.underlying68;have hu66:=Tryz.underlying66;have HB:=aS (Below.refl w.heap.size w);unfold impl_GoodIns.f at h;have H:=h;clear h;obtain ⟨t102,A2,H⟩:=bA_ H;by_cases c3 : t102 = true
 ·
  subst c3;replace H:=iT H;obtain ⟨t103,A4,H⟩:=bA_ H;by_cases c5 : t103 = true
  ·
   subst c5;replace H:=iT H;obtain ⟨t104,A6,H⟩:=bA_ H;by_cases c7 : t104 = true
   ·
    subst c7;replace H:=iT H;obtain ⟨t105,A8,H⟩:=bA_ H;by_cases c9 : t105 = true
    ·
     subst c9;replace H:=iT H;by_cases c10 : a0_3 = 7
     ·
      rw [if_pos c10] at H;obtain ⟨c10b0,c10b1⟩:=eT c10;clear c10;by_cases c11 : a0_1 = 1
      ·
       rw [if_pos c11] at H;obtain ⟨c11b0,c11b1⟩:=eT c11;clear c11;by_cases c12 : a0_5 > 255
       ·
        rw [if_pos c12] at H;have c12b0:=decide_eq_true c12;clear c12;obtain rfl:=Option.some.inj H;go_enter Tryz.func47,Tryz.ntmps47;go_wp2_with (first | ((with_reducible refine gD 1 rfl ?_);refine bX (w:=w) #[.int .i64 a0_0,.int .i64 a0_1,.int .i64 a0_2,.int .i64 a0_3,.int .i64 a0_4,.int .i64 a0_5,.int .i64 a0_6] 68 ?_;clear HB;intro gb101 w13 HB BK101 GW101;refine zz7 BK101.out ?_;intros) | ((with_reducible refine gate_callee (f:=69) rfl ?_);refine goesQ (some 5) Tryz.func69 #[.int .i64 a0_1] (impl_isSize.calls a0_1 true _ A2.out) fun nd => ?_) | (go_at_call 44;(with_reducible refine (impl_within.calls a0_2 0 3 true _ A4.out).mono ?_);rintro e w' ⟨rfl,⟨nd,rfl⟩⟩) | (go_at_call 44;(with_reducible refine (impl_within.calls a0_6 0 7 true _ A6.out).mono ?_);rintro e w' ⟨rfl,⟨nd,rfl⟩⟩) | (go_at_call 70;(with_reducible refine (impl_GoodOperand.calls a0_3 a0_4 a0_5 true _ A8.out).mono ?_);rintro e w15 ⟨rfl,hb⟩;refine mk2 (xB BK101 hb) (xL hb) ?_;clear BK101 HB;intro BK101 HB;refine zz7 BK101.out ?_;intros));go_ret;exact ⟨oE,oL⟩
       ·
        rw [if_neg c12] at H;have c12b0:=decide_eq_false c12;clear c12;obtain ⟨t106,A17,H⟩:=bA_ H;obtain rfl:=Option.some.inj H;go_enter Tryz.func47,Tryz.ntmps47;go_wp2_with (first | ((with_reducible refine gD 1 rfl ?_);refine bX (w:=w) #[.int .i64 a0_0,.int .i64 a0_1,.int .i64 a0_2,.int .i64 a0_3,.int .i64 a0_4,.int .i64 a0_5,.int .i64 a0_6] 68 ?_;clear HB;intro gb101 w18 HB BK101 GW101;refine zz7 BK101.out ?_;intros) | ((with_reducible refine gate_callee (f:=69) rfl ?_);refine goesQ (some 5) Tryz.func69 #[.int .i64 a0_1] (impl_isSize.calls a0_1 true _ A2.out) fun nd => ?_) | (go_at_call 44;(with_reducible refine (impl_within.calls a0_2 0 3 true _ A4.out).mono ?_);rintro e w' ⟨rfl,⟨nd,rfl⟩⟩) | (go_at_call 44;(with_reducible refine (impl_within.calls a0_6 0 7 true _ A6.out).mono ?_);rintro e w' ⟨rfl,⟨nd,rfl⟩⟩) | (go_at_call 70;(with_reducible refine (impl_GoodOperand.calls a0_3 a0_4 a0_5 true _ A8.out).mono ?_);rintro e w20 ⟨rfl,hb⟩;refine mk2 (xB BK101 hb) (xL hb) ?_;clear BK101 HB;intro BK101 HB;refine zz7 BK101.out ?_;intros) | (go_at_call 71;(with_reducible refine (impl_isKind.calls k a0_0 a0_1 a0_2 a0_3 a0_4 a0_5 a0_6 t106 _ A17.out).mono ?_);rintro e w22 ⟨rfl,hb⟩;refine mk2 (xB BK101 hb) (xL hb) ?_;clear BK101 HB;intro BK101 HB));go_ret;exact ⟨oE,oL⟩
      ·
       rw [if_neg c11] at H;obtain ⟨c11b0,c11b1⟩:=eF c11;obtain ⟨t107,A23,H⟩:=bA_ H;obtain rfl:=Option.some.inj H;go_enter Tryz.func47,Tryz.ntmps47;go_wp2_with (first | ((with_reducible refine gD 1 rfl ?_);refine bX (w:=w) #[.int .i64 a0_0,.int .i64 a0_1,.int .i64 a0_2,.int .i64 a0_3,.int .i64 a0_4,.int .i64 a0_5,.int .i64 a0_6] 68 ?_;clear HB;intro gb101 w24 HB BK101 GW101;refine zz7 BK101.out ?_;intros) | ((with_reducible refine gate_callee (f:=69) rfl ?_);refine goesQ (some 5) Tryz.func69 #[.int .i64 a0_1] (impl_isSize.calls a0_1 true _ A2.out) fun nd => ?_) | (go_at_call 44;(with_reducible refine (impl_within.calls a0_2 0 3 true _ A4.out).mono ?_);rintro e w' ⟨rfl,⟨nd,rfl⟩⟩) | (go_at_call 44;(with_reducible refine (impl_within.calls a0_6 0 7 true _ A6.out).mono ?_);rintro e w' ⟨rfl,⟨nd,rfl⟩⟩) | (go_at_call 70;(with_reducible refine (impl_GoodOperand.calls a0_3 a0_4 a0_5 true _ A8.out).mono ?_);rintro e w26 ⟨rfl,hb⟩;refine mk2 (xB BK101 hb) (xL hb) ?_;clear BK101 HB;intro BK101 HB;refine zz7 BK101.out ?_;intros) | (go_at_call 71;(with_reducible refine (impl_isKind.calls k a0_0 a0_1 a0_2 a0_3 a0_4 a0_5 a0_6 t107 _ A23.out).mono ?_);rintro e w28 ⟨rfl,hb⟩;refine mk2 (xB BK101 hb) (xL hb) ?_;clear BK101 HB;intro BK101 HB));go_ret;exact ⟨oE,oL⟩
     ·
      rw [if_neg c10] at H;obtain ⟨c10b0,c10b1⟩:=eF c10;obtain ⟨t108,A29,H⟩:=bA_ H;obtain rfl:=Option.some.inj H;go_enter Tryz.func47,Tryz.ntmps47;go_wp2_with (first | ((with_reducible refine gD 1 rfl ?_);refine bX (w:=w) #[.int .i64 a0_0,.int .i64 a0_1,.int .i64 a0_2,.int .i64 a0_3,.int .i64 a0_4,.int .i64 a0_5,.int .i64 a0_6] 68 ?_;clear HB;intro gb101 w30 HB BK101 GW101;refine zz7 BK101.out ?_;intros) | ((with_reducible refine gate_callee (f:=69) rfl ?_);refine goesQ (some 5) Tryz.func69 #[.int .i64 a0_1] (impl_isSize.calls a0_1 true _ A2.out) fun nd => ?_) | (go_at_call 44;(with_reducible refine (impl_within.calls a0_2 0 3 true _ A4.out).mono ?_);rintro e w' ⟨rfl,⟨nd,rfl⟩⟩) | (go_at_call 44;(with_reducible refine (impl_within.calls a0_6 0 7 true _ A6.out).mono ?_);rintro e w' ⟨rfl,⟨nd,rfl⟩⟩) | (go_at_call 70;(with_reducible refine (impl_GoodOperand.calls a0_3 a0_4 a0_5 true _ A8.out).mono ?_);rintro e w32 ⟨rfl,hb⟩;refine mk2 (xB BK101 hb) (xL hb) ?_;clear BK101 HB;intro BK101 HB;refine zz7 BK101.out ?_;intros) | (go_at_call 71;(with_reducible refine (impl_isKind.calls k a0_0 a0_1 a0_2 a0_3 a0_4 a0_5 a0_6 t108 _ A29.out).mono ?_);rintro e w34 ⟨rfl,hb⟩;refine mk2 (xB BK101 hb) (xL hb) ?_;clear BK101 HB;intro BK101 HB));go_ret;exact ⟨oE,oL⟩
    ·
     replace c9:=Bool.eq_false_iff.mpr c9;subst c9;replace H:=iF H;obtain rfl:=Option.some.inj H;go_enter Tryz.func47,Tryz.ntmps47;go_wp2_with (first | ((with_reducible refine gD 1 rfl ?_);refine bX (w:=w) #[.int .i64 a0_0,.int .i64 a0_1,.int .i64 a0_2,.int .i64 a0_3,.int .i64 a0_4,.int .i64 a0_5,.int .i64 a0_6] 68 ?_;clear HB;intro gb101 w35 HB BK101 GW101;refine zz7 BK101.out ?_;intros) | ((with_reducible refine gate_callee (f:=69) rfl ?_);refine goesQ (some 5) Tryz.func69 #[.int .i64 a0_1] (impl_isSize.calls a0_1 true _ A2.out) fun nd => ?_) | (go_at_call 44;(with_reducible refine (impl_within.calls a0_2 0 3 true _ A4.out).mono ?_);rintro e w' ⟨rfl,⟨nd,rfl⟩⟩) | (go_at_call 44;(with_reducible refine (impl_within.calls a0_6 0 7 true _ A6.out).mono ?_);rintro e w' ⟨rfl,⟨nd,rfl⟩⟩) | (go_at_call 70;(with_reducible refine (impl_GoodOperand.calls a0_3 a0_4 a0_5 false _ A8.out).mono ?_);rintro e w37 ⟨rfl,hb⟩;refine mk2 (xB BK101 hb) (xL hb) ?_;clear BK101 HB;intro BK101 HB));go_ret;exact ⟨oE,oL⟩
   ·
    replace c7:=Bool.eq_false_iff.mpr c7;subst c7;replace H:=iF H;obtain rfl:=Option.some.inj H;go_enter Tryz.func47,Tryz.ntmps47;go_wp2_with (first | ((with_reducible refine gD 1 rfl ?_);refine bX (w:=w) #[.int .i64 a0_0,.int .i64 a0_1,.int .i64 a0_2,.int .i64 a0_3,.int .i64 a0_4,.int .i64 a0_5,.int .i64 a0_6] 68 ?_;clear HB;intro gb101 w38 HB BK101 GW101;refine zz7 BK101.out ?_;intros) | ((with_reducible refine gate_callee (f:=69) rfl ?_);refine goesQ (some 5) Tryz.func69 #[.int .i64 a0_1] (impl_isSize.calls a0_1 true _ A2.out) fun nd => ?_) | (go_at_call 44;(with_reducible refine (impl_within.calls a0_2 0 3 true _ A4.out).mono ?_);rintro e w' ⟨rfl,⟨nd,rfl⟩⟩) | (go_at_call 44;(with_reducible refine (impl_within.calls a0_6 0 7 false _ A6.out).mono ?_);rintro e w' ⟨rfl,⟨nd,rfl⟩⟩));go_ret;exact ⟨oE,oL⟩
  ·
   replace c5:=Bool.eq_false_iff.mpr c5;subst c5;replace H:=iF H;obtain rfl:=Option.some.inj H;go_enter Tryz.func47,Tryz.ntmps47;go_wp2_with (first | ((with_reducible refine gD 1 rfl ?_);refine bX (w:=w) #[.int .i64 a0_0,.int .i64 a0_1,.int .i64 a0_2,.int .i64 a0_3,.int .i64 a0_4,.int .i64 a0_5,.int .i64 a0_6] 68 ?_;clear HB;intro gb101 w40 HB BK101 GW101;refine zz7 BK101.out ?_;intros) | ((with_reducible refine gate_callee (f:=69) rfl ?_);refine goesQ (some 5) Tryz.func69 #[.int .i64 a0_1] (impl_isSize.calls a0_1 true _ A2.out) fun nd => ?_) | (go_at_call 44;(with_reducible refine (impl_within.calls a0_2 0 3 false _ A4.out).mono ?_);rintro e w' ⟨rfl,⟨nd,rfl⟩⟩));go_ret;exact ⟨oE,oL⟩
 ·
  replace c3:=Bool.eq_false_iff.mpr c3;subst c3;replace H:=iF H;obtain rfl:=Option.some.inj H;go_enter Tryz.func47,Tryz.ntmps47;go_wp2_with (first | ((with_reducible refine gD 1 rfl ?_);refine bX (w:=w) #[.int .i64 a0_0,.int .i64 a0_1,.int .i64 a0_2,.int .i64 a0_3,.int .i64 a0_4,.int .i64 a0_5,.int .i64 a0_6] 68 ?_;clear HB;intro gb101 w42 HB BK101 GW101;refine zz7 BK101.out ?_;intros) | ((with_reducible refine gate_callee (f:=69) rfl ?_);refine goesQ (some 5) Tryz.func69 #[.int .i64 a0_1] (impl_isSize.calls a0_1 false _ A2.out) fun nd => ?_));go_ret;exact ⟨oE,oL⟩
end Go.Proofs.YtjnifnhpnccpcaaGreat.J
