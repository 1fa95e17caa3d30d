-- Made by this session's program gprint.py out of the translation. Not trusted: Lean checks it.
import Derived.Test.YtjnifnhpnccpcaaGreatJx0
import Derived.Test.YtjnifnhpnccpcaaGreatJx4
namespace Go.Proofs.YtjnifnhpnccpcaaGreat.J
open Go.RowKit Go.Proofs.YtjnifnhpnccpcaaGreatW.PrintWords Go.Proofs.YtjnifnhpnccpcaaGreatW.PrintLast Go.Proofs.YtjnifnhpnccpcaaGreatW.PrintMore
attribute [local go_sem] max2_int min2_int max_two min_two max_three min_three max_four min_four
set_option linter.unusedVariables false
set_option linter.unusedSimpArgs false
def spec_l14Fault.j0 : Nat → Int → Bool → Int → Int → Int → Int → Int → Int → Int → Option (Bool)
 | 0,_,_,_,_,_,_,_,_,_ => none
 | k + 1,x4,x12,x102000,x102001,x102002,x102003,x102004,x102005,x102006 => if x12 = true then (some true) else (if x4 = 15 then (if x102006 ≤ 4 then (some (x102006 != 2)) else (some false)) else (if x4 = 19 then (some (x102006 == 0)) else ((spec_l7Memory.f x102003).bind fun t102 => (some t102))))
def spec_l14Fault.f (k : Nat) (a0_0 : Int) (a0_1 : Int) (a0_2 : Int) (a0_3 : Int) (a0_4 : Int) (a0_5 : Int) (a0_6 : Int) : Option (Bool):=if a0_0 = 10 then (some false) else (if a0_0 = 14 then (some (a0_6 == 1)) else (if a0_0 = 17 then (spec_l14Fault.j0 k a0_0 (a0_0 == 17) a0_0 a0_1 a0_2 a0_3 a0_4 a0_5 a0_6) else (spec_l14Fault.j0 k a0_0 (a0_0 == 18) a0_0 a0_1 a0_2 a0_3 a0_4 a0_5 a0_6)))
set_option maxHeartbeats 8000000 in
set_option maxRecDepth 100000 in
theorem spec_l14Fault.calls (k : Nat) (a0_0 : Int) (a0_1 : Int) (a0_2 : Int) (a0_3 : Int) (a0_4 : Int) (a0_5 : Int) (a0_6 : Int) (r : Bool) (w : World) (h : spec_l14Fault.f k a0_0 a0_1 a0_2 a0_3 a0_4 a0_5 a0_6 = some r) :
  Calls Tryz.prog 86 #[.agg #[.int .i64 a0_0,.int .i64 a0_1,.int .i64 a0_2,.int .i64 a0_3,.int .i64 a0_4,.int .i64 a0_5,.int .i64 a0_6]] w fun e w' => e = .returned (.bool r) ∧ Below w.heap.size w w':=by
 have hu68:=Tryz.underlying68;have HB:=aS (Below.refl w.heap.size w);unfold spec_l14Fault.f at h;have H:=h;clear h;by_cases c2 : a0_0 = 10
 ·
  rw [if_pos c2] at H;obtain ⟨c2b0,c2b1⟩:=eT c2;clear c2;obtain rfl:=Option.some.inj H;go_enter Tryz.func86,Tryz.ntmps86;go_wp2_with (first | ((with_reducible refine gD 1 rfl ?_);refine bX (w:=w) #[.int .i64 a0_0,.int .i64 a0_1,.int .i64 a0_2,.int .i64 a0_3,.int .i64 a0_4,.int .i64 a0_5,.int .i64 a0_6] 68 ?_;clear HB;intro gb101 w3 HB BK101 GW101;refine zz7 BK101.out ?_;intros));go_ret;exact ⟨oE,oL⟩
 ·
  rw [if_neg c2] at H;obtain ⟨c2b0,c2b1⟩:=eF c2;by_cases c5 : a0_0 = 14
  ·
   rw [if_pos c5] at H;obtain ⟨c5b0,c5b1⟩:=eT c5;clear c5;obtain rfl:=Option.some.inj H;go_enter Tryz.func86,Tryz.ntmps86;go_wp2_with (first | ((with_reducible refine gD 1 rfl ?_);refine bX (w:=w) #[.int .i64 a0_0,.int .i64 a0_1,.int .i64 a0_2,.int .i64 a0_3,.int .i64 a0_4,.int .i64 a0_5,.int .i64 a0_6] 68 ?_;clear HB;intro gb101 w6 HB BK101 GW101;refine zz7 BK101.out ?_;intros));go_ret;exact ⟨oE,oL⟩
  ·
   rw [if_neg c5] at H;obtain ⟨c5b0,c5b1⟩:=eF c5;have HC8:=aS H;clear H;go_enter Tryz.func86,Tryz.ntmps86;go_upto_if 12 with (first | ((with_reducible refine gD 1 rfl ?_);refine bX (w:=w) #[.int .i64 a0_0,.int .i64 a0_1,.int .i64 a0_2,.int .i64 a0_3,.int .i64 a0_4,.int .i64 a0_5,.int .i64 a0_6] 68 ?_;clear HB;intro gb101 w9 HB BK101 GW101;refine zz7 BK101.out ?_;intros));(try simp only [Act.put,List.setIfInBounds_toArray,List.set_cons_zero,List.set_cons_succ]);go_cut [12] (fun v12 wc => ∃ (kq : Nat) (x12_7 : Bool),v12 = .bool x12_7 ∧ Aside0 (spec_l14Fault.j0 kq a0_0 x12_7 a0_0 a0_1 a0_2 a0_3 a0_4 a0_5 a0_6 = some r) ∧ Aside0 (kq ≤ k) ∧ Aside0 (wc.heap[gb101]? = some (.cells #[.int .i64 a0_0,.int .i64 a0_1,.int .i64 a0_2,.int .i64 a0_3,.int .i64 a0_4,.int .i64 a0_5,.int .i64 a0_6] 68 (0,0))) ∧ Aside0 (Below w.heap.size w wc))
   case first =>
    have H:=HC8.out;clear HC8;by_cases c11 : a0_0 = 17;{rw [if_pos c11] at H;obtain ⟨c11b0,c11b1⟩:=eT c11;clear c11;(first | rw [c11b0] | (simp only [i64_w,i32_w];rw [c11b0]) | skip);have H':=aS H;clear H;go_wp2;go_meet;case rel => exact ⟨_,((a0_0 == 17)),oE,H',⟨by first | omega | exact Nat.le_refl _⟩,⟨oB BK101.out⟩,⟨oL⟩⟩};{rw [if_neg c11] at H;obtain ⟨c11b0,c11b1⟩:=eF c11;(first | rw [c11b0] | (simp only [i64_w,i32_w];rw [c11b0]) | skip);have H':=aS H;clear H;go_wp2;go_meet;case rel => exact ⟨_,((a0_0 == 18)),oE,H',⟨by first | omega | exact Nat.le_refl _⟩,⟨oB BK101.out⟩,⟨oL⟩⟩}
   case rest =>
    clear HC8;obtain ⟨kq,x12_7,rfl,HA,HJ7,BK101,HB⟩:=hcut;cases kq with
    | zero => exact absurd HA.out (by simp [spec_l14Fault.j0])
    | succ kj7 =>
     have H:=HA.out;clear HA;simp only [spec_l14Fault.j0] at H;by_cases c12 : x12_7 = true;{subst c12;replace H:=iT H;obtain rfl:=Option.some.inj H;go_wp2;go_ret;exact ⟨oE,oL⟩}
     ·
      replace c12:=Bool.eq_false_iff.mpr c12;subst c12;replace H:=iF H;by_cases c13 : a0_0 = 15
      ·
       rw [if_pos c13] at H;obtain ⟨c13b0,c13b1⟩:=eT c13;clear c13;by_cases c14 : a0_6 ≤ 4;{rw [if_pos c14] at H;have c14b0:=decide_eq_true c14;clear c14;obtain rfl:=Option.some.inj H;refine zz7 BK101.out ?_;intros;go_wp2;go_ret;exact ⟨oE,oL⟩};{rw [if_neg c14] at H;have c14b0:=decide_eq_false c14;clear c14;obtain rfl:=Option.some.inj H;refine zz7 BK101.out ?_;intros;go_wp2;go_ret;exact ⟨oE,oL⟩}
      ·
       rw [if_neg c13] at H;obtain ⟨c13b0,c13b1⟩:=eF c13;by_cases c17 : a0_0 = 19;{rw [if_pos c17] at H;obtain ⟨c17b0,c17b1⟩:=eT c17;clear c17;obtain rfl:=Option.some.inj H;refine zz7 BK101.out ?_;intros;go_wp2;go_ret;exact ⟨oE,oL⟩}
       ·
        rw [if_neg c17] at H;obtain ⟨c17b0,c17b1⟩:=eF c17;obtain ⟨t102,A19,H⟩:=bA_ H;obtain rfl:=Option.some.inj H;refine zz7 BK101.out ?_;intros;go_wp2_with (first | ((with_reducible refine gate_callee (f:=61) rfl ?_);refine goesQ (some 33) Tryz.func61 #[.int .i64 a0_3] (spec_l7Memory.calls a0_3 t102 _ A19.out) fun nd => ?_));go_ret;exact ⟨oE,oL⟩
end Go.Proofs.YtjnifnhpnccpcaaGreat.J
