-- Made by this session's program gprint.py out of the translation. Not trusted: Lean checks it.
import Derived.Test.YtjnifnhpnccpcaaGreatJx0
import Derived.Test.YtjnifnhpnccpcaaGreatJx17
import Derived.Test.YtjnifnhpnccpcaaGreatJx19
namespace Go.Proofs.YtjnifnhpnccpcaaGreat.J
open Go.RowKit Go.Proofs.YtjnifnhpnccpcaaGreatW.PrintWords Go.Proofs.YtjnifnhpnccpcaaGreatW.PrintLast Go.Proofs.YtjnifnhpnccpcaaGreatW.PrintMore
attribute [local go_sem] max2_int min2_int max_two min_two max_three min_three max_four min_four
set_option linter.unusedVariables false
set_option linter.unusedSimpArgs false
def impl_readsOf.j0 : Nat → Bool → Int → Int → Int → Int → Int → Int → Int → Option (Int)
 | 0,_,_,_,_,_,_,_,_ => none
 | k + 1,x14,x102000,x102001,x102002,x102003,x102004,x102005,x102006 => if x14 = true then (some 16) else (if x102000 = 18 then (some 20) else (if x102000 = 19 then (if x102006 = 1 then (some 31) else (some 0)) else (some 0)))
def impl_readsOf.f (k : Nat) (a0_0 : Int) (a0_1 : Int) (a0_2 : Int) (a0_3 : Int) (a0_4 : Int) (a0_5 : Int) (a0_6 : Int) : Option (Int):=if a0_0 = 13 then ((impl_needsOf.f (wrap64 (a0_6 + (wrap64 (8 * a0_2))))).bind fun t102 => (some t102)) else (if a0_0 = 12 then (impl_readsOf.j0 k (decide (a0_6 ≥ 6)) a0_0 a0_1 a0_2 a0_3 a0_4 a0_5 a0_6) else (impl_readsOf.j0 k false a0_0 a0_1 a0_2 a0_3 a0_4 a0_5 a0_6))
set_option maxHeartbeats 8000000 in
set_option maxRecDepth 100000 in
theorem impl_readsOf.calls (k : Nat) (a0_0 : Int) (a0_1 : Int) (a0_2 : Int) (a0_3 : Int) (a0_4 : Int) (a0_5 : Int) (a0_6 : Int) (r : Int) (w : World) (h : impl_readsOf.f k a0_0 a0_1 a0_2 a0_3 a0_4 a0_5 a0_6 = some r) :
  Calls Tryz.prog 96 #[.agg #[.int .i64 a0_0,.int .i64 a0_1,.int .i64 a0_2,.int .i64 a0_3,.int .i64 a0_4,.int .i64 a0_5,.int .i64 a0_6]] w fun e w' => e = .returned (.int .i64 r) ∧ Below w.heap.size w w':=by
 have hu68:=Tryz.underlying68;have HB:=aS (Below.refl w.heap.size w);unfold impl_readsOf.f at h;have H:=h;clear h;by_cases c2 : a0_0 = 13
 ·
  rw [if_pos c2] at H;obtain ⟨c2b0,c2b1⟩:=eT c2;clear c2;obtain ⟨t102,A3,H⟩:=bA_ H;obtain rfl:=Option.some.inj H;go_enter Tryz.func96,Tryz.ntmps96;go_wp2_with (first | ((with_reducible refine gD 1 rfl ?_);refine bX (w:=w) #[.int .i64 a0_0,.int .i64 a0_1,.int .i64 a0_2,.int .i64 a0_3,.int .i64 a0_4,.int .i64 a0_5,.int .i64 a0_6] 68 ?_;clear HB;intro gb101 w4 HB BK101 GW101;refine zz7 BK101.out ?_;intros) | ((with_reducible refine gC 103 rfl ?_);refine gN Tryz.func103 #[.int .i64 (wrap64 (a0_6 + (wrap64 (8 * a0_2))))] ?_;(with_reducible refine (impl_needsOf.calls (wrap64 (a0_6 + (wrap64 (8 * a0_2)))) t102 _ A3.out).mono ?_);rintro e w6 ⟨rfl,hb⟩;refine ⟨_,rfl,?_⟩;refine mk2 (xB BK101 hb) (xL hb) ?_;clear BK101 HB;intro BK101 HB));go_ret;exact ⟨oE,oL⟩
 ·
  rw [if_neg c2] at H;obtain ⟨c2b0,c2b1⟩:=eF c2;have HC7:=aS H;clear H;go_enter Tryz.func96,Tryz.ntmps96;go_upto_region 3 with (first | ((with_reducible refine gD 1 rfl ?_);refine bX (w:=w) #[.int .i64 a0_0,.int .i64 a0_1,.int .i64 a0_2,.int .i64 a0_3,.int .i64 a0_4,.int .i64 a0_5,.int .i64 a0_6] 68 ?_;clear HB;intro gb101 w8 HB BK101 GW101;refine zz7 BK101.out ?_;intros));(try simp only [Act.put,List.setIfInBounds_toArray,List.set_cons_zero,List.set_cons_succ]);go_cut [14] (fun v14 wc => ∃ (kq : Nat) (x14_6 : Bool),v14 = .bool x14_6 ∧ Aside0 (impl_readsOf.j0 kq x14_6 a0_0 a0_1 a0_2 a0_3 a0_4 a0_5 a0_6 = some r) ∧ Aside0 (kq ≤ k) ∧ Aside0 (wc.heap[gb101]? = some (.cells #[.int .i64 a0_0,.int .i64 a0_1,.int .i64 a0_2,.int .i64 a0_3,.int .i64 a0_4,.int .i64 a0_5,.int .i64 a0_6] 68 (0,0))) ∧ Aside0 (Below w.heap.size w wc))
  case first =>
   have H:=HC7.out;clear HC7;by_cases c10 : a0_0 = 12;{rw [if_pos c10] at H;obtain ⟨c10b0,c10b1⟩:=eT c10;clear c10;(first | rw [c10b0] | (simp only [i64_w,i32_w];rw [c10b0]) | skip);have H':=aS H;clear H;refine zz7 BK101.out ?_;intros;go_wp2;go_meet;case rel => exact ⟨_,(decide (a0_6 ≥ 6)),oE,H',⟨by first | omega | exact Nat.le_refl _⟩,⟨oB BK101.out⟩,⟨oL⟩⟩};{rw [if_neg c10] at H;obtain ⟨c10b0,c10b1⟩:=eF c10;(first | rw [c10b0] | (simp only [i64_w,i32_w];rw [c10b0]) | skip);have H':=aS H;clear H;refine zz7 BK101.out ?_;intros;go_wp2;go_meet;case rel => exact ⟨_,(false),oE,H',⟨by first | omega | exact Nat.le_refl _⟩,⟨oB BK101.out⟩,⟨oL⟩⟩}
  case rest =>
   clear HC7;obtain ⟨kq,x14_6,rfl,HA,HJ6,BK101,HB⟩:=hcut;cases kq with
   | zero => exact absurd HA.out (by simp [impl_readsOf.j0])
   | succ kj6 =>
    have H:=HA.out;clear HA;simp only [impl_readsOf.j0] at H;by_cases c13 : x14_6 = true;{subst c13;replace H:=iT H;obtain rfl:=Option.some.inj H;go_wp2;go_ret;exact ⟨oE,oL⟩}
    ·
     replace c13:=Bool.eq_false_iff.mpr c13;subst c13;replace H:=iF H;by_cases c14 : a0_0 = 18;{rw [if_pos c14] at H;obtain ⟨c14b0,c14b1⟩:=eT c14;clear c14;obtain rfl:=Option.some.inj H;refine zz7 BK101.out ?_;intros;go_wp2;go_ret;exact ⟨oE,oL⟩}
     ·
      rw [if_neg c14] at H;obtain ⟨c14b0,c14b1⟩:=eF c14;by_cases c16 : a0_0 = 19
      ·
       rw [if_pos c16] at H;obtain ⟨c16b0,c16b1⟩:=eT c16;clear c16;by_cases c17 : a0_6 = 1;{rw [if_pos c17] at H;obtain ⟨c17b0,c17b1⟩:=eT c17;clear c17;obtain rfl:=Option.some.inj H;refine zz7 BK101.out ?_;intros;go_wp2;go_ret;exact ⟨oE,oL⟩};{rw [if_neg c17] at H;obtain ⟨c17b0,c17b1⟩:=eF c17;obtain rfl:=Option.some.inj H;refine zz7 BK101.out ?_;intros;go_wp2;go_ret;exact ⟨oE,oL⟩}
      · rw [if_neg c16] at H;obtain ⟨c16b0,c16b1⟩:=eF c16;obtain rfl:=Option.some.inj H;refine zz7 BK101.out ?_;intros;go_wp2;go_ret;exact ⟨oE,oL⟩
mutual
def impl_mayFault.j0 : Nat → Int → Bool → Int → Int → Int → Int → Int → Int → Int → Option (Bool)
 | 0,_,_,_,_,_,_,_,_,_ => none
 | k + 1,x4,x5,x102000,x102001,x102002,x102003,x102004,x102005,x102006 => if x5 = true then (some true) else (if x4 = 15 then (if x102006 = 0 then (some true) else (if x102006 = 1 then (some true) else (if x102006 = 3 then (some true) else (some (x102006 == 4))))) else (if x4 = 19 then (some (x102006 == 0)) else (if x4 = 10 then (impl_mayFault.j1 k (x4 == 10) x102000 x102001 x102002 x102003 x102004 x102005 x102006) else (impl_mayFault.j1 k (x4 == 14) x102000 x102001 x102002 x102003 x102004 x102005 x102006))))
def impl_mayFault.j1 : Nat → Bool → Int → Int → Int → Int → Int → Int → Int → Option (Bool)
 | 0,_,_,_,_,_,_,_,_ => none
 | k + 1,x33,x102000,x102001,x102002,x102003,x102004,x102005,x102006 => if x33 = true then ((impl_mayWrite.f x102000 x102001 x102002 x102003 x102004 x102005 x102006).bind fun t102 => (some t102)) else ((impl_isMemory.f x102003).bind fun t103 => (some t103))
end
def impl_mayFault.f (k : Nat) (a0_0 : Int) (a0_1 : Int) (a0_2 : Int) (a0_3 : Int) (a0_4 : Int) (a0_5 : Int) (a0_6 : Int) : Option (Bool):=if a0_0 = 17 then (impl_mayFault.j0 k a0_0 (a0_0 == 17) a0_0 a0_1 a0_2 a0_3 a0_4 a0_5 a0_6) else (impl_mayFault.j0 k a0_0 (a0_0 == 18) a0_0 a0_1 a0_2 a0_3 a0_4 a0_5 a0_6)
set_option maxHeartbeats 8000000 in
set_option maxRecDepth 100000 in
theorem impl_mayFault.calls (k : Nat) (a0_0 : Int) (a0_1 : Int) (a0_2 : Int) (a0_3 : Int) (a0_4 : Int) (a0_5 : Int) (a0_6 : Int) (r : Bool) (w : World) (h : impl_mayFault.f k a0_0 a0_1 a0_2 a0_3 a0_4 a0_5 a0_6 = some r) :
  Calls Tryz.prog 97 #[.agg #[.int .i64 a0_0,.int .i64 a0_1,.int .i64 a0_2,.int .i64 a0_3,.int .i64 a0_4,.int .i64 a0_5,.int .i64 a0_6]] w fun e w' => e = .returned (.bool r) ∧ Below w.heap.size w w':=by
 have hu68:=Tryz.underlying68;have HB:=aS (Below.refl w.heap.size w);unfold impl_mayFault.f at h;have H:=h;clear h;have HC2:=aS H;clear H;go_enter Tryz.func97,Tryz.ntmps97;go_upto_if 5 with (first | ((with_reducible refine gD 1 rfl ?_);refine bX (w:=w) #[.int .i64 a0_0,.int .i64 a0_1,.int .i64 a0_2,.int .i64 a0_3,.int .i64 a0_4,.int .i64 a0_5,.int .i64 a0_6] 68 ?_;clear HB;intro gb101 w3 HB BK101 GW101;refine zz7 BK101.out ?_;intros));(try simp only [Act.put,List.setIfInBounds_toArray,List.set_cons_zero,List.set_cons_succ]);go_cut [5] (fun v5 wc => ∃ (kq : Nat) (x5_1 : Bool),v5 = .bool x5_1 ∧ Aside0 (impl_mayFault.j0 kq a0_0 x5_1 a0_0 a0_1 a0_2 a0_3 a0_4 a0_5 a0_6 = some r) ∧ Aside0 (kq ≤ k) ∧ Aside0 (wc.heap[gb101]? = some (.cells #[.int .i64 a0_0,.int .i64 a0_1,.int .i64 a0_2,.int .i64 a0_3,.int .i64 a0_4,.int .i64 a0_5,.int .i64 a0_6] 68 (0,0))) ∧ Aside0 (Below w.heap.size w wc))
 case first =>
  have H:=HC2.out;clear HC2;by_cases c5 : a0_0 = 17;{rw [if_pos c5] at H;obtain ⟨c5b0,c5b1⟩:=eT c5;clear c5;(first | rw [c5b0] | (simp only [i64_w,i32_w];rw [c5b0]) | skip);have H':=aS H;clear H;go_wp2;go_meet;case rel => exact ⟨_,((a0_0 == 17)),oE,H',⟨by first | omega | exact Nat.le_refl _⟩,⟨oB BK101.out⟩,⟨oL⟩⟩};{rw [if_neg c5] at H;obtain ⟨c5b0,c5b1⟩:=eF c5;(first | rw [c5b0] | (simp only [i64_w,i32_w];rw [c5b0]) | skip);have H':=aS H;clear H;go_wp2;go_meet;case rel => exact ⟨_,((a0_0 == 18)),oE,H',⟨by first | omega | exact Nat.le_refl _⟩,⟨oB BK101.out⟩,⟨oL⟩⟩}
 case rest =>
  clear HC2;obtain ⟨kq,x5_1,rfl,HA,HJ1,BK101,HB⟩:=hcut;cases kq with
  | zero => exact absurd HA.out (by simp [impl_mayFault.j0])
  | succ kj1 =>
   have H:=HA.out;clear HA;simp only [impl_mayFault.j0] at H;by_cases c6 : x5_1 = true;{subst c6;replace H:=iT H;obtain rfl:=Option.some.inj H;go_wp2;go_ret;exact ⟨oE,oL⟩}
   ·
    replace c6:=Bool.eq_false_iff.mpr c6;subst c6;replace H:=iF H;by_cases c7 : a0_0 = 15
    ·
     rw [if_pos c7] at H;obtain ⟨c7b0,c7b1⟩:=eT c7;clear c7;by_cases c8 : a0_6 = 0;{rw [if_pos c8] at H;obtain ⟨c8b0,c8b1⟩:=eT c8;clear c8;obtain rfl:=Option.some.inj H;refine zz7 BK101.out ?_;intros;go_wp2;go_ret;exact ⟨oE,oL⟩}
     ·
      rw [if_neg c8] at H;obtain ⟨c8b0,c8b1⟩:=eF c8;by_cases c10 : a0_6 = 1;{rw [if_pos c10] at H;obtain ⟨c10b0,c10b1⟩:=eT c10;clear c10;obtain rfl:=Option.some.inj H;refine zz7 BK101.out ?_;intros;go_wp2;go_ret;exact ⟨oE,oL⟩}
      ·
       rw [if_neg c10] at H;obtain ⟨c10b0,c10b1⟩:=eF c10;by_cases c12 : a0_6 = 3;{rw [if_pos c12] at H;obtain ⟨c12b0,c12b1⟩:=eT c12;clear c12;obtain rfl:=Option.some.inj H;refine zz7 BK101.out ?_;intros;go_wp2;go_ret;exact ⟨oE,oL⟩};{rw [if_neg c12] at H;obtain ⟨c12b0,c12b1⟩:=eF c12;obtain rfl:=Option.some.inj H;refine zz7 BK101.out ?_;intros;go_wp2;go_ret;exact ⟨oE,oL⟩}
    ·
     rw [if_neg c7] at H;obtain ⟨c7b0,c7b1⟩:=eF c7;by_cases c15 : a0_0 = 19;{rw [if_pos c15] at H;obtain ⟨c15b0,c15b1⟩:=eT c15;clear c15;obtain rfl:=Option.some.inj H;refine zz7 BK101.out ?_;intros;go_wp2;go_ret;exact ⟨oE,oL⟩}
     ·
      rw [if_neg c15] at H;obtain ⟨c15b0,c15b1⟩:=eF c15;have HC17:=aS H;clear H;go_upto_if 33 with (fail);go_cut [33] (fun v33 wc => ∃ (kq : Nat) (x33_16 : Bool),v33 = .bool x33_16 ∧ Aside0 (impl_mayFault.j1 kq x33_16 a0_0 a0_1 a0_2 a0_3 a0_4 a0_5 a0_6 = some r) ∧ Aside0 (kq ≤ kj1) ∧ Aside0 (wc.heap[gb101]? = some (.cells #[.int .i64 a0_0,.int .i64 a0_1,.int .i64 a0_2,.int .i64 a0_3,.int .i64 a0_4,.int .i64 a0_5,.int .i64 a0_6] 68 (0,0))) ∧ Aside0 (Below w.heap.size w wc))
      case first =>
       have H:=HC17.out;clear HC17;by_cases c18 : a0_0 = 10;{rw [if_pos c18] at H;obtain ⟨c18b0,c18b1⟩:=eT c18;clear c18;(first | rw [c18b0] | (simp only [i64_w,i32_w];rw [c18b0]) | skip);have H':=aS H;clear H;go_wp2;go_meet;case rel => exact ⟨_,((a0_0 == 10)),oE,H',⟨by have:=HJ1.out;first | omega | exact Nat.le_refl _⟩,⟨oB BK101.out⟩,⟨oL⟩⟩};{rw [if_neg c18] at H;obtain ⟨c18b0,c18b1⟩:=eF c18;(first | rw [c18b0] | (simp only [i64_w,i32_w];rw [c18b0]) | skip);have H':=aS H;clear H;go_wp2;go_meet;case rel => exact ⟨_,((a0_0 == 14)),oE,H',⟨by have:=HJ1.out;first | omega | exact Nat.le_refl _⟩,⟨oB BK101.out⟩,⟨oL⟩⟩}
      case rest =>
       clear HC17;obtain ⟨kq,x33_16,rfl,HA,HJ16,BK101,HB⟩:=hcut;cases kq with
       | zero => exact absurd HA.out (by simp [impl_mayFault.j1])
       | succ kj16 =>
        have H:=HA.out;clear HA;simp only [impl_mayFault.j1] at H;by_cases c19 : x33_16 = true
        ·
         subst c19;replace H:=iT H;obtain ⟨t102,A20,H⟩:=bA_ H;obtain rfl:=Option.some.inj H;refine zz7 BK101.out ?_;intros;go_wp2_with (first | ((with_reducible refine gC 95 rfl ?_);refine gN Tryz.func95 #[.agg #[.int .i64 a0_0,.int .i64 a0_1,.int .i64 a0_2,.int .i64 a0_3,.int .i64 a0_4,.int .i64 a0_5,.int .i64 a0_6]] ?_;(with_reducible refine (impl_mayWrite.calls a0_0 a0_1 a0_2 a0_3 a0_4 a0_5 a0_6 t102 _ A20.out).mono ?_);rintro e w22 ⟨rfl,hb⟩;refine ⟨_,rfl,?_⟩;refine mk2 (xB BK101 hb) (xL hb) ?_;clear BK101 HB;intro BK101 HB));go_ret;exact ⟨oE,oL⟩
        ·
         replace c19:=Bool.eq_false_iff.mpr c19;subst c19;replace H:=iF H;obtain ⟨t103,A23,H⟩:=bA_ H;obtain rfl:=Option.some.inj H;refine zz7 BK101.out ?_;intros;go_wp2_with (first | ((with_reducible refine gate_callee (f:=102) rfl ?_);refine goesQ (some 41) Tryz.func102 #[.int .i64 a0_3] (impl_isMemory.calls a0_3 t103 _ A23.out) fun nd => ?_));go_ret;exact ⟨oE,oL⟩
end Go.Proofs.YtjnifnhpnccpcaaGreat.J
