-- Made by this session's program gprint.py out of the translation. Not trusted: Lean checks it.
import Derived.Test.YtjnifnhpnccpcaaGreatJx0
import Derived.Test.YtjnifnhpnccpcaaGreatJx17
namespace Go.Proofs.YtjnifnhpnccpcaaGreat.J
open Go.RowKit Go.Proofs.YtjnifnhpnccpcaaGreatW.PrintWords Go.Proofs.YtjnifnhpnccpcaaGreatW.PrintLast Go.Proofs.YtjnifnhpnccpcaaGreatW.PrintMore
attribute [local go_sem] max2_int min2_int max_two min_two max_three min_three max_four min_four
set_option linter.unusedVariables false
set_option linter.unusedSimpArgs false
def impl_isStraight.j0 : Nat → Int → Bool → Int → Int → Int → Int → Int → Int → Int → Option (Bool)
 | 0,_,_,_,_,_,_,_,_,_ => none
 | k + 1,x4,x5,x102000,x102001,x102002,x102003,x102004,x102005,x102006 => if x5 = true then (some false) else (if x4 = 15 then (if x102006 = 2 then (some true) else (if x102006 = 5 then (some true) else (some (x102006 == 6)))) else (if x4 = 19 then (some (x102006 != 0)) else (some true)))
def impl_isStraight.f (k : Nat) (a0_0 : Int) (a0_1 : Int) (a0_2 : Int) (a0_3 : Int) (a0_4 : Int) (a0_5 : Int) (a0_6 : Int) : Option (Bool):=if a0_0 = 13 then (impl_isStraight.j0 k a0_0 (a0_0 == 13) a0_0 a0_1 a0_2 a0_3 a0_4 a0_5 a0_6) else (impl_isStraight.j0 k a0_0 (a0_0 == 14) a0_0 a0_1 a0_2 a0_3 a0_4 a0_5 a0_6)
set_option maxHeartbeats 8000000 in
set_option maxRecDepth 100000 in
theorem impl_isStraight.calls (k : Nat) (a0_0 : Int) (a0_1 : Int) (a0_2 : Int) (a0_3 : Int) (a0_4 : Int) (a0_5 : Int) (a0_6 : Int) (r : Bool) (w : World) (h : impl_isStraight.f k a0_0 a0_1 a0_2 a0_3 a0_4 a0_5 a0_6 = some r) :
  Calls Tryz.prog 48 #[.agg #[.int .i64 a0_0,.int .i64 a0_1,.int .i64 a0_2,.int .i64 a0_3,.int .i64 a0_4,.int .i64 a0_5,.int .i64 a0_6]] w fun e w' => e = .returned (.bool r) ∧ Below w.heap.size w w':=by
 have hu68:=Tryz.underlying68;have HB:=aS (Below.refl w.heap.size w);unfold impl_isStraight.f at h;have H:=h;clear h;have HC2:=aS H;clear H;go_enter Tryz.func48,Tryz.ntmps48;go_upto_if 5 with (first | ((with_reducible refine gD 1 rfl ?_);refine bX (w:=w) #[.int .i64 a0_0,.int .i64 a0_1,.int .i64 a0_2,.int .i64 a0_3,.int .i64 a0_4,.int .i64 a0_5,.int .i64 a0_6] 68 ?_;clear HB;intro gb101 w3 HB BK101 GW101;refine zz7 BK101.out ?_;intros));(try simp only [Act.put,List.setIfInBounds_toArray,List.set_cons_zero,List.set_cons_succ]);go_cut [5] (fun v5 wc => ∃ (kq : Nat) (x5_1 : Bool),v5 = .bool x5_1 ∧ Aside0 (impl_isStraight.j0 kq a0_0 x5_1 a0_0 a0_1 a0_2 a0_3 a0_4 a0_5 a0_6 = some r) ∧ Aside0 (kq ≤ k) ∧ Aside0 (wc.heap[gb101]? = some (.cells #[.int .i64 a0_0,.int .i64 a0_1,.int .i64 a0_2,.int .i64 a0_3,.int .i64 a0_4,.int .i64 a0_5,.int .i64 a0_6] 68 (0,0))) ∧ Aside0 (Below w.heap.size w wc))
 case first =>
  have H:=HC2.out;clear HC2;by_cases c5 : a0_0 = 13;{rw [if_pos c5] at H;obtain ⟨c5b0,c5b1⟩:=eT c5;clear c5;(first | rw [c5b0] | (simp only [i64_w,i32_w];rw [c5b0]) | skip);have H':=aS H;clear H;go_wp2;go_meet;case rel => exact ⟨_,((a0_0 == 13)),oE,H',⟨by first | omega | exact Nat.le_refl _⟩,⟨oB BK101.out⟩,⟨oL⟩⟩};{rw [if_neg c5] at H;obtain ⟨c5b0,c5b1⟩:=eF c5;(first | rw [c5b0] | (simp only [i64_w,i32_w];rw [c5b0]) | skip);have H':=aS H;clear H;go_wp2;go_meet;case rel => exact ⟨_,((a0_0 == 14)),oE,H',⟨by first | omega | exact Nat.le_refl _⟩,⟨oB BK101.out⟩,⟨oL⟩⟩}
 case rest =>
  clear HC2;obtain ⟨kq,x5_1,rfl,HA,HJ1,BK101,HB⟩:=hcut;cases kq with
  | zero => exact absurd HA.out (by simp [impl_isStraight.j0])
  | succ kj1 =>
   have H:=HA.out;clear HA;simp only [impl_isStraight.j0] at H;by_cases c6 : x5_1 = true;{subst c6;replace H:=iT H;obtain rfl:=Option.some.inj H;go_wp2;go_ret;exact ⟨oE,oL⟩}
   ·
    replace c6:=Bool.eq_false_iff.mpr c6;subst c6;replace H:=iF H;by_cases c7 : a0_0 = 15
    ·
     rw [if_pos c7] at H;obtain ⟨c7b0,c7b1⟩:=eT c7;clear c7;by_cases c8 : a0_6 = 2;{rw [if_pos c8] at H;obtain ⟨c8b0,c8b1⟩:=eT c8;clear c8;obtain rfl:=Option.some.inj H;refine zz7 BK101.out ?_;intros;go_wp2;go_ret;exact ⟨oE,oL⟩}
     ·
      rw [if_neg c8] at H;obtain ⟨c8b0,c8b1⟩:=eF c8;by_cases c10 : a0_6 = 5;{rw [if_pos c10] at H;obtain ⟨c10b0,c10b1⟩:=eT c10;clear c10;obtain rfl:=Option.some.inj H;refine zz7 BK101.out ?_;intros;go_wp2;go_ret;exact ⟨oE,oL⟩};{rw [if_neg c10] at H;obtain ⟨c10b0,c10b1⟩:=eF c10;obtain rfl:=Option.some.inj H;refine zz7 BK101.out ?_;intros;go_wp2;go_ret;exact ⟨oE,oL⟩}
    ·
     rw [if_neg c7] at H;obtain ⟨c7b0,c7b1⟩:=eF c7;by_cases c13 : a0_0 = 19;{rw [if_pos c13] at H;obtain ⟨c13b0,c13b1⟩:=eT c13;clear c13;obtain rfl:=Option.some.inj H;refine zz7 BK101.out ?_;intros;go_wp2;go_ret;exact ⟨oE,oL⟩};{rw [if_neg c13] at H;obtain ⟨c13b0,c13b1⟩:=eF c13;obtain rfl:=Option.some.inj H;go_wp2;go_ret;exact ⟨oE,oL⟩}
mutual
def impl_setsOf.j0 : Nat → Int → Int → Int → Bool → Int → Int → Int → Int → Int → Int → Int → Option (Int)
 | 0,_,_,_,_,_,_,_,_,_,_,_ => none
 | k + 1,x3,x4,x6,x7,x102000,x102001,x102002,x102003,x102004,x102005,x102006 => if x7 = true then (some x4) else (if x6 = 3 then (impl_setsOf.j1 k x3 x4 x6 (x6 == 3) x102000 x102001 x102002 x102003 x102004 x102005 x102006) else (impl_setsOf.j1 k x3 x4 x6 (x6 == 4) x102000 x102001 x102002 x102003 x102004 x102005 x102006))
def impl_setsOf.j1 : Nat → Int → Int → Int → Bool → Int → Int → Int → Int → Int → Int → Int → Option (Int)
 | 0,_,_,_,_,_,_,_,_,_,_,_ => none
 | k + 1,x3,x4,x6,x17,x102000,x102001,x102002,x102003,x102004,x102005,x102006 => if x17 = true then (some x3) else (if x6 = 11 then (if x102006 = 1 then (some x3) else (some x4)) else (if x6 = 12 then (if x102006 = 4 then (some x4) else (if x102006 = 5 then (some x4) else (some x3))) else (if x6 = 18 then (some (Go.bits .andNot .i64 x3 4)) else (if x6 = 15 then (if x102006 = 5 then (impl_setsOf.j2 k x3 x4 x102006 (x102006 == 5)) else (impl_setsOf.j2 k x3 x4 x102006 (x102006 == 6))) else (if x6 = 19 then (if x102006 = 0 then (some x3) else (some 0)) else (some 0))))))
def impl_setsOf.j2 : Nat → Int → Int → Int → Bool → Option (Int)
 | 0,_,_,_,_ => none
 | k + 1,x3,x4,x47,x48 => if x48 = true then (some x4) else (if x47 = 1 then (some x3) else (if x47 = 3 then (some x3) else (some 0)))
end
def impl_setsOf.f (k : Nat) (a0_0 : Int) (a0_1 : Int) (a0_2 : Int) (a0_3 : Int) (a0_4 : Int) (a0_5 : Int) (a0_6 : Int) : Option (Int):=if a0_0 = 1 then (impl_setsOf.j0 k 31 15 a0_0 (a0_0 == 1) a0_0 a0_1 a0_2 a0_3 a0_4 a0_5 a0_6) else (if a0_0 = 2 then (impl_setsOf.j0 k 31 15 a0_0 (a0_0 == 2) a0_0 a0_1 a0_2 a0_3 a0_4 a0_5 a0_6) else (if a0_0 = 5 then (impl_setsOf.j0 k 31 15 a0_0 (a0_0 == 5) a0_0 a0_1 a0_2 a0_3 a0_4 a0_5 a0_6) else (if a0_0 = 6 then (impl_setsOf.j0 k 31 15 a0_0 (a0_0 == 6) a0_0 a0_1 a0_2 a0_3 a0_4 a0_5 a0_6) else (if a0_0 = 7 then (impl_setsOf.j0 k 31 15 a0_0 (a0_0 == 7) a0_0 a0_1 a0_2 a0_3 a0_4 a0_5 a0_6) else (if a0_0 = 8 then (impl_setsOf.j0 k 31 15 a0_0 (a0_0 == 8) a0_0 a0_1 a0_2 a0_3 a0_4 a0_5 a0_6) else (if a0_0 = 16 then (impl_setsOf.j0 k 31 15 a0_0 (a0_0 == 16) a0_0 a0_1 a0_2 a0_3 a0_4 a0_5 a0_6) else (impl_setsOf.j0 k 31 15 a0_0 (a0_0 == 17) a0_0 a0_1 a0_2 a0_3 a0_4 a0_5 a0_6)))))))
set_option maxHeartbeats 8000000 in
set_option maxRecDepth 100000 in
theorem impl_setsOf.calls (k : Nat) (a0_0 : Int) (a0_1 : Int) (a0_2 : Int) (a0_3 : Int) (a0_4 : Int) (a0_5 : Int) (a0_6 : Int) (r : Int) (w : World) (h : impl_setsOf.f k a0_0 a0_1 a0_2 a0_3 a0_4 a0_5 a0_6 = some r) :
  Calls Tryz.prog 94 #[.agg #[.int .i64 a0_0,.int .i64 a0_1,.int .i64 a0_2,.int .i64 a0_3,.int .i64 a0_4,.int .i64 a0_5,.int .i64 a0_6]] w fun e w' => e = .returned (.int .i64 r) ∧ Below w.heap.size w w':=by
 have hu68:=Tryz.underlying68;have HB:=aS (Below.refl w.heap.size w);unfold impl_setsOf.f at h;have H:=h;clear h;have HC2:=aS H;clear H;go_enter Tryz.func94,Tryz.ntmps94;go_upto_if 7 with (first | ((with_reducible refine gD 1 rfl ?_);refine bX (w:=w) #[.int .i64 a0_0,.int .i64 a0_1,.int .i64 a0_2,.int .i64 a0_3,.int .i64 a0_4,.int .i64 a0_5,.int .i64 a0_6] 68 ?_;clear HB;intro gb101 w3 HB BK101 GW101;refine zz7 BK101.out ?_;intros));(try simp only [Act.put,List.setIfInBounds_toArray,List.set_cons_zero,List.set_cons_succ]);go_cut [7] (fun v7 wc => ∃ (kq : Nat) (x7_1 : Bool),v7 = .bool x7_1 ∧ Aside0 (impl_setsOf.j0 kq 31 15 a0_0 x7_1 a0_0 a0_1 a0_2 a0_3 a0_4 a0_5 a0_6 = some r) ∧ Aside0 (kq ≤ k) ∧ Aside0 (wc.heap[gb101]? = some (.cells #[.int .i64 a0_0,.int .i64 a0_1,.int .i64 a0_2,.int .i64 a0_3,.int .i64 a0_4,.int .i64 a0_5,.int .i64 a0_6] 68 (0,0))) ∧ Aside0 (Below w.heap.size w wc))
 case first =>
  have H:=HC2.out;clear HC2;by_cases c5 : a0_0 = 1;{rw [if_pos c5] at H;obtain ⟨c5b0,c5b1⟩:=eT c5;clear c5;(first | rw [c5b0] | (simp only [i64_w,i32_w];rw [c5b0]) | skip);have H':=aS H;clear H;go_wp2;go_meet;case rel => exact ⟨_,((a0_0 == 1)),oE,H',⟨by first | omega | exact Nat.le_refl _⟩,⟨oB BK101.out⟩,⟨oL⟩⟩}
  ·
   rw [if_neg c5] at H;obtain ⟨c5b0,c5b1⟩:=eF c5;(first | rw [c5b0] | (simp only [i64_w,i32_w];rw [c5b0]) | skip);by_cases c6 : a0_0 = 2;{rw [if_pos c6] at H;obtain ⟨c6b0,c6b1⟩:=eT c6;clear c6;have H':=aS H;clear H;go_wp2;go_meet;case rel => exact ⟨_,((a0_0 == 2)),oE,H',⟨by first | omega | exact Nat.le_refl _⟩,⟨oB BK101.out⟩,⟨oL⟩⟩}
   ·
    rw [if_neg c6] at H;obtain ⟨c6b0,c6b1⟩:=eF c6;by_cases c7 : a0_0 = 5;{rw [if_pos c7] at H;obtain ⟨c7b0,c7b1⟩:=eT c7;clear c7;have H':=aS H;clear H;go_wp2;go_meet;case rel => exact ⟨_,((a0_0 == 5)),oE,H',⟨by first | omega | exact Nat.le_refl _⟩,⟨oB BK101.out⟩,⟨oL⟩⟩}
    ·
     rw [if_neg c7] at H;obtain ⟨c7b0,c7b1⟩:=eF c7;by_cases c8 : a0_0 = 6;{rw [if_pos c8] at H;obtain ⟨c8b0,c8b1⟩:=eT c8;clear c8;have H':=aS H;clear H;go_wp2;go_meet;case rel => exact ⟨_,((a0_0 == 6)),oE,H',⟨by first | omega | exact Nat.le_refl _⟩,⟨oB BK101.out⟩,⟨oL⟩⟩}
     ·
      rw [if_neg c8] at H;obtain ⟨c8b0,c8b1⟩:=eF c8;by_cases c9 : a0_0 = 7;{rw [if_pos c9] at H;obtain ⟨c9b0,c9b1⟩:=eT c9;clear c9;have H':=aS H;clear H;go_wp2;go_meet;case rel => exact ⟨_,((a0_0 == 7)),oE,H',⟨by first | omega | exact Nat.le_refl _⟩,⟨oB BK101.out⟩,⟨oL⟩⟩}
      ·
       rw [if_neg c9] at H;obtain ⟨c9b0,c9b1⟩:=eF c9;by_cases c10 : a0_0 = 8;{rw [if_pos c10] at H;obtain ⟨c10b0,c10b1⟩:=eT c10;clear c10;have H':=aS H;clear H;go_wp2;go_meet;case rel => exact ⟨_,((a0_0 == 8)),oE,H',⟨by first | omega | exact Nat.le_refl _⟩,⟨oB BK101.out⟩,⟨oL⟩⟩}
       ·
        rw [if_neg c10] at H;obtain ⟨c10b0,c10b1⟩:=eF c10;by_cases c11 : a0_0 = 16;{rw [if_pos c11] at H;obtain ⟨c11b0,c11b1⟩:=eT c11;clear c11;have H':=aS H;clear H;go_wp2;go_meet;case rel => exact ⟨_,((a0_0 == 16)),oE,H',⟨by first | omega | exact Nat.le_refl _⟩,⟨oB BK101.out⟩,⟨oL⟩⟩};{rw [if_neg c11] at H;obtain ⟨c11b0,c11b1⟩:=eF c11;have H':=aS H;clear H;go_wp2;go_meet;case rel => exact ⟨_,((a0_0 == 17)),oE,H',⟨by first | omega | exact Nat.le_refl _⟩,⟨oB BK101.out⟩,⟨oL⟩⟩}
 case rest =>
  clear HC2;obtain ⟨kq,x7_1,rfl,HA,HJ1,BK101,HB⟩:=hcut;cases kq with
  | zero => exact absurd HA.out (by simp [impl_setsOf.j0])
  | succ kj1 =>
   have H:=HA.out;clear HA;simp only [impl_setsOf.j0] at H;by_cases c12 : x7_1 = true;{subst c12;replace H:=iT H;obtain rfl:=Option.some.inj H;go_wp2;go_ret;exact ⟨oE,oL⟩}
   ·
    replace c12:=Bool.eq_false_iff.mpr c12;subst c12;replace H:=iF H;have HC13:=aS H;clear H;go_upto_if 17 with (fail);go_cut [17] (fun v17 wc => ∃ (kq : Nat) (x17_12 : Bool),v17 = .bool x17_12 ∧ Aside0 (impl_setsOf.j1 kq 31 15 a0_0 x17_12 a0_0 a0_1 a0_2 a0_3 a0_4 a0_5 a0_6 = some r) ∧ Aside0 (kq ≤ kj1) ∧ Aside0 (wc.heap[gb101]? = some (.cells #[.int .i64 a0_0,.int .i64 a0_1,.int .i64 a0_2,.int .i64 a0_3,.int .i64 a0_4,.int .i64 a0_5,.int .i64 a0_6] 68 (0,0))) ∧ Aside0 (Below w.heap.size w wc))
    case first =>
     have H:=HC13.out;clear HC13;by_cases c14 : a0_0 = 3;{rw [if_pos c14] at H;obtain ⟨c14b0,c14b1⟩:=eT c14;clear c14;(first | rw [c14b0] | (simp only [i64_w,i32_w];rw [c14b0]) | skip);have H':=aS H;clear H;go_wp2;go_meet;case rel => exact ⟨_,((a0_0 == 3)),oE,H',⟨by have:=HJ1.out;first | omega | exact Nat.le_refl _⟩,⟨oB BK101.out⟩,⟨oL⟩⟩};{rw [if_neg c14] at H;obtain ⟨c14b0,c14b1⟩:=eF c14;(first | rw [c14b0] | (simp only [i64_w,i32_w];rw [c14b0]) | skip);have H':=aS H;clear H;go_wp2;go_meet;case rel => exact ⟨_,((a0_0 == 4)),oE,H',⟨by have:=HJ1.out;first | omega | exact Nat.le_refl _⟩,⟨oB BK101.out⟩,⟨oL⟩⟩}
    case rest =>
     clear HC13;obtain ⟨kq,x17_12,rfl,HA,HJ12,BK101,HB⟩:=hcut;cases kq with
     | zero => exact absurd HA.out (by simp [impl_setsOf.j1])
     | succ kj12 =>
      have H:=HA.out;clear HA;simp only [impl_setsOf.j1] at H;by_cases c15 : x17_12 = true;{subst c15;replace H:=iT H;obtain rfl:=Option.some.inj H;go_wp2;go_ret;exact ⟨oE,oL⟩}
      ·
       replace c15:=Bool.eq_false_iff.mpr c15;subst c15;replace H:=iF H;by_cases c16 : a0_0 = 11
       ·
        rw [if_pos c16] at H;obtain ⟨c16b0,c16b1⟩:=eT c16;clear c16;by_cases c17 : a0_6 = 1;{rw [if_pos c17] at H;obtain ⟨c17b0,c17b1⟩:=eT c17;clear c17;obtain rfl:=Option.some.inj H;refine zz7 BK101.out ?_;intros;go_wp2;go_ret;exact ⟨oE,oL⟩};{rw [if_neg c17] at H;obtain ⟨c17b0,c17b1⟩:=eF c17;obtain rfl:=Option.some.inj H;refine zz7 BK101.out ?_;intros;go_wp2;go_ret;exact ⟨oE,oL⟩}
       ·
        rw [if_neg c16] at H;obtain ⟨c16b0,c16b1⟩:=eF c16;by_cases c20 : a0_0 = 12
        ·
         rw [if_pos c20] at H;obtain ⟨c20b0,c20b1⟩:=eT c20;clear c20;by_cases c21 : a0_6 = 4;{rw [if_pos c21] at H;obtain ⟨c21b0,c21b1⟩:=eT c21;clear c21;obtain rfl:=Option.some.inj H;refine zz7 BK101.out ?_;intros;go_wp2;go_ret;exact ⟨oE,oL⟩}
         ·
          rw [if_neg c21] at H;obtain ⟨c21b0,c21b1⟩:=eF c21;by_cases c23 : a0_6 = 5;{rw [if_pos c23] at H;obtain ⟨c23b0,c23b1⟩:=eT c23;clear c23;obtain rfl:=Option.some.inj H;refine zz7 BK101.out ?_;intros;go_wp2;go_ret;exact ⟨oE,oL⟩};{rw [if_neg c23] at H;obtain ⟨c23b0,c23b1⟩:=eF c23;obtain rfl:=Option.some.inj H;refine zz7 BK101.out ?_;intros;go_wp2;go_ret;exact ⟨oE,oL⟩}
        ·
         rw [if_neg c20] at H;obtain ⟨c20b0,c20b1⟩:=eF c20;by_cases c26 : a0_0 = 18;{rw [if_pos c26] at H;obtain ⟨c26b0,c26b1⟩:=eT c26;clear c26;obtain rfl:=Option.some.inj H;go_wp2;go_ret;exact ⟨oE,oL⟩}
         ·
          rw [if_neg c26] at H;obtain ⟨c26b0,c26b1⟩:=eF c26;by_cases c27 : a0_0 = 15
          ·
           rw [if_pos c27] at H;obtain ⟨c27b0,c27b1⟩:=eT c27;clear c27;have HC28:=aS H;clear H;refine zz7 BK101.out ?_;intros;go_upto_if 48 with (fail);go_cut [48] (fun v48 wc => ∃ (kq : Nat) (x48_27 : Bool),v48 = .bool x48_27 ∧ Aside0 (impl_setsOf.j2 kq 31 15 a0_6 x48_27 = some r) ∧ Aside0 (kq ≤ kj12) ∧ Aside0 (wc.heap[gb101]? = some (.cells #[.int .i64 a0_0,.int .i64 a0_1,.int .i64 a0_2,.int .i64 a0_3,.int .i64 a0_4,.int .i64 a0_5,.int .i64 a0_6] 68 (0,0))) ∧ Aside0 (Below w.heap.size w wc))
           case first =>
            have H:=HC28.out;clear HC28;by_cases c30 : a0_6 = 5;{rw [if_pos c30] at H;obtain ⟨c30b0,c30b1⟩:=eT c30;clear c30;(first | rw [c30b0] | (simp only [i64_w,i32_w];rw [c30b0]) | skip);have H':=aS H;clear H;go_wp2;go_meet;case rel => exact ⟨_,((a0_6 == 5)),oE,H',⟨by have:=HJ1.out;have:=HJ12.out;first | omega | exact Nat.le_refl _⟩,⟨oB BK101.out⟩,⟨oL⟩⟩};{rw [if_neg c30] at H;obtain ⟨c30b0,c30b1⟩:=eF c30;(first | rw [c30b0] | (simp only [i64_w,i32_w];rw [c30b0]) | skip);have H':=aS H;clear H;go_wp2;go_meet;case rel => exact ⟨_,((a0_6 == 6)),oE,H',⟨by have:=HJ1.out;have:=HJ12.out;first | omega | exact Nat.le_refl _⟩,⟨oB BK101.out⟩,⟨oL⟩⟩}
           case rest =>
            clear HC28;obtain ⟨kq,x48_27,rfl,HA,HJ27,BK101,HB⟩:=hcut;cases kq with
            | zero => exact absurd HA.out (by simp [impl_setsOf.j2])
            | succ kj27 =>
             have H:=HA.out;clear HA;simp only [impl_setsOf.j2] at H;by_cases c31 : x48_27 = true;{subst c31;replace H:=iT H;obtain rfl:=Option.some.inj H;go_wp2;go_ret;exact ⟨oE,oL⟩}
             ·
              replace c31:=Bool.eq_false_iff.mpr c31;subst c31;replace H:=iF H;by_cases c32 : a0_6 = 1;{rw [if_pos c32] at H;obtain ⟨c32b0,c32b1⟩:=eT c32;clear c32;obtain rfl:=Option.some.inj H;go_wp2;go_ret;exact ⟨oE,oL⟩}
              ·
               rw [if_neg c32] at H;obtain ⟨c32b0,c32b1⟩:=eF c32;by_cases c33 : a0_6 = 3;{rw [if_pos c33] at H;obtain ⟨c33b0,c33b1⟩:=eT c33;clear c33;obtain rfl:=Option.some.inj H;go_wp2;go_ret;exact ⟨oE,oL⟩};{rw [if_neg c33] at H;obtain ⟨c33b0,c33b1⟩:=eF c33;obtain rfl:=Option.some.inj H;go_wp2;go_ret;exact ⟨oE,oL⟩}
          ·
           rw [if_neg c27] at H;obtain ⟨c27b0,c27b1⟩:=eF c27;by_cases c34 : a0_0 = 19
           ·
            rw [if_pos c34] at H;obtain ⟨c34b0,c34b1⟩:=eT c34;clear c34;by_cases c35 : a0_6 = 0;{rw [if_pos c35] at H;obtain ⟨c35b0,c35b1⟩:=eT c35;clear c35;obtain rfl:=Option.some.inj H;refine zz7 BK101.out ?_;intros;go_wp2;go_ret;exact ⟨oE,oL⟩};{rw [if_neg c35] at H;obtain ⟨c35b0,c35b1⟩:=eF c35;obtain rfl:=Option.some.inj H;refine zz7 BK101.out ?_;intros;go_wp2;go_ret;exact ⟨oE,oL⟩}
           · rw [if_neg c34] at H;obtain ⟨c34b0,c34b1⟩:=eF c34;obtain rfl:=Option.some.inj H;go_wp2;go_ret;exact ⟨oE,oL⟩
def impl_mayWrite.f (a0_0 : Int) (a0_1 : Int) (a0_2 : Int) (a0_3 : Int) (a0_4 : Int) (a0_5 : Int) (a0_6 : Int) : Option (Bool):=if a0_0 = 2 then ((impl_isMemory.f a0_3).bind fun t102 => (if t102 = true then (some true) else (if a0_0 = 14 then (some (a0_6 == 1)) else (some false)))) else (if a0_0 = 11 then (if a0_6 = 3 then (if a0_0 = 14 then (some (a0_6 == 1)) else (some false)) else ((impl_isMemory.f a0_3).bind fun t103 => (if t103 = true then (some true) else (if a0_0 = 14 then (some (a0_6 == 1)) else (some false))))) else (if a0_0 = 14 then (some (a0_6 == 1)) else (some false)))
set_option maxHeartbeats 8000000 in
set_option maxRecDepth 100000 in
theorem impl_mayWrite.calls (a0_0 : Int) (a0_1 : Int) (a0_2 : Int) (a0_3 : Int) (a0_4 : Int) (a0_5 : Int) (a0_6 : Int) (r : Bool) (w : World) (h : impl_mayWrite.f a0_0 a0_1 a0_2 a0_3 a0_4 a0_5 a0_6 = some r) :
  Calls Tryz.prog 95 #[.agg #[.int .i64 a0_0,.int .i64 a0_1,.int .i64 a0_2,.int .i64 a0_3,.int .i64 a0_4,.int .i64 a0_5,.int .i64 a0_6]] w fun e w' => e = .returned (.bool r) ∧ Below w.heap.size w w':=by
 have hu68:=Tryz.underlying68;have HB:=aS (Below.refl w.heap.size w);unfold impl_mayWrite.f at h;have H:=h;clear h;by_cases c2 : a0_0 = 2
 ·
  rw [if_pos c2] at H;obtain ⟨c2b0,c2b1⟩:=eT c2;clear c2;obtain ⟨t102,A3,H⟩:=bA_ H;by_cases c4 : t102 = true
  ·
   subst c4;replace H:=iT H;obtain rfl:=Option.some.inj H;go_enter Tryz.func95,Tryz.ntmps95;go_wp2_with (first | ((with_reducible refine gD 1 rfl ?_);refine bX (w:=w) #[.int .i64 a0_0,.int .i64 a0_1,.int .i64 a0_2,.int .i64 a0_3,.int .i64 a0_4,.int .i64 a0_5,.int .i64 a0_6] 68 ?_;clear HB;intro gb101 w5 HB BK101 GW101;refine zz7 BK101.out ?_;intros) | (go_at_call 102;(with_reducible refine (impl_isMemory.calls a0_3 true _ A3.out).mono ?_);rintro e w' ⟨rfl,⟨nd,rfl⟩⟩));go_ret;exact ⟨oE,oL⟩
  ·
   replace c4:=Bool.eq_false_iff.mpr c4;subst c4;replace H:=iF H;by_cases c7 : a0_0 = 14
   ·
    rw [if_pos c7] at H;obtain ⟨c7b0,c7b1⟩:=eT c7;clear c7;obtain rfl:=Option.some.inj H;go_enter Tryz.func95,Tryz.ntmps95;go_wp2_with (first | ((with_reducible refine gD 1 rfl ?_);refine bX (w:=w) #[.int .i64 a0_0,.int .i64 a0_1,.int .i64 a0_2,.int .i64 a0_3,.int .i64 a0_4,.int .i64 a0_5,.int .i64 a0_6] 68 ?_;clear HB;intro gb101 w8 HB BK101 GW101;refine zz7 BK101.out ?_;intros) | (go_at_call 102;(with_reducible refine (impl_isMemory.calls a0_3 false _ A3.out).mono ?_);rintro e w' ⟨rfl,⟨nd,rfl⟩⟩));go_ret;exact ⟨oE,oL⟩
   ·
    rw [if_neg c7] at H;obtain ⟨c7b0,c7b1⟩:=eF c7;obtain rfl:=Option.some.inj H;go_enter Tryz.func95,Tryz.ntmps95;go_wp2_with (first | ((with_reducible refine gD 1 rfl ?_);refine bX (w:=w) #[.int .i64 a0_0,.int .i64 a0_1,.int .i64 a0_2,.int .i64 a0_3,.int .i64 a0_4,.int .i64 a0_5,.int .i64 a0_6] 68 ?_;clear HB;intro gb101 w10 HB BK101 GW101;refine zz7 BK101.out ?_;intros) | (go_at_call 102;(with_reducible refine (impl_isMemory.calls a0_3 false _ A3.out).mono ?_);rintro e w' ⟨rfl,⟨nd,rfl⟩⟩));go_ret;exact ⟨oE,oL⟩
 ·
  rw [if_neg c2] at H;obtain ⟨c2b0,c2b1⟩:=eF c2;by_cases c12 : a0_0 = 11
  ·
   rw [if_pos c12] at H;obtain ⟨c12b0,c12b1⟩:=eT c12;clear c12;by_cases c13 : a0_6 = 3
   ·
    rw [if_pos c13] at H;obtain ⟨c13b0,c13b1⟩:=eT c13;clear c13;by_cases c14 : a0_0 = 14
    ·
     rw [if_pos c14] at H;obtain ⟨c14b0,c14b1⟩:=eT c14;clear c14;obtain rfl:=Option.some.inj H;go_enter Tryz.func95,Tryz.ntmps95;go_wp2_with (first | ((with_reducible refine gD 1 rfl ?_);refine bX (w:=w) #[.int .i64 a0_0,.int .i64 a0_1,.int .i64 a0_2,.int .i64 a0_3,.int .i64 a0_4,.int .i64 a0_5,.int .i64 a0_6] 68 ?_;clear HB;intro gb101 w15 HB BK101 GW101;refine zz7 BK101.out ?_;intros));go_ret;exact ⟨oE,oL⟩
    ·
     rw [if_neg c14] at H;obtain ⟨c14b0,c14b1⟩:=eF c14;obtain rfl:=Option.some.inj H;go_enter Tryz.func95,Tryz.ntmps95;go_wp2_with (first | ((with_reducible refine gD 1 rfl ?_);refine bX (w:=w) #[.int .i64 a0_0,.int .i64 a0_1,.int .i64 a0_2,.int .i64 a0_3,.int .i64 a0_4,.int .i64 a0_5,.int .i64 a0_6] 68 ?_;clear HB;intro gb101 w17 HB BK101 GW101;refine zz7 BK101.out ?_;intros));go_ret;exact ⟨oE,oL⟩
   ·
    rw [if_neg c13] at H;obtain ⟨c13b0,c13b1⟩:=eF c13;obtain ⟨t103,A19,H⟩:=bA_ H;by_cases c20 : t103 = true
    ·
     subst c20;replace H:=iT H;obtain rfl:=Option.some.inj H;go_enter Tryz.func95,Tryz.ntmps95;go_wp2_with (first | ((with_reducible refine gD 1 rfl ?_);refine bX (w:=w) #[.int .i64 a0_0,.int .i64 a0_1,.int .i64 a0_2,.int .i64 a0_3,.int .i64 a0_4,.int .i64 a0_5,.int .i64 a0_6] 68 ?_;clear HB;intro gb101 w21 HB BK101 GW101;refine zz7 BK101.out ?_;intros) | (go_at_call 102;(with_reducible refine (impl_isMemory.calls a0_3 true _ A19.out).mono ?_);rintro e w' ⟨rfl,⟨nd,rfl⟩⟩));go_ret;exact ⟨oE,oL⟩
    ·
     replace c20:=Bool.eq_false_iff.mpr c20;subst c20;replace H:=iF H;by_cases c23 : a0_0 = 14
     ·
      rw [if_pos c23] at H;obtain ⟨c23b0,c23b1⟩:=eT c23;clear c23;obtain rfl:=Option.some.inj H;go_enter Tryz.func95,Tryz.ntmps95;go_wp2_with (first | ((with_reducible refine gD 1 rfl ?_);refine bX (w:=w) #[.int .i64 a0_0,.int .i64 a0_1,.int .i64 a0_2,.int .i64 a0_3,.int .i64 a0_4,.int .i64 a0_5,.int .i64 a0_6] 68 ?_;clear HB;intro gb101 w24 HB BK101 GW101;refine zz7 BK101.out ?_;intros) | (go_at_call 102;(with_reducible refine (impl_isMemory.calls a0_3 false _ A19.out).mono ?_);rintro e w' ⟨rfl,⟨nd,rfl⟩⟩));go_ret;exact ⟨oE,oL⟩
     ·
      rw [if_neg c23] at H;obtain ⟨c23b0,c23b1⟩:=eF c23;obtain rfl:=Option.some.inj H;go_enter Tryz.func95,Tryz.ntmps95;go_wp2_with (first | ((with_reducible refine gD 1 rfl ?_);refine bX (w:=w) #[.int .i64 a0_0,.int .i64 a0_1,.int .i64 a0_2,.int .i64 a0_3,.int .i64 a0_4,.int .i64 a0_5,.int .i64 a0_6] 68 ?_;clear HB;intro gb101 w26 HB BK101 GW101;refine zz7 BK101.out ?_;intros) | (go_at_call 102;(with_reducible refine (impl_isMemory.calls a0_3 false _ A19.out).mono ?_);rintro e w' ⟨rfl,⟨nd,rfl⟩⟩));go_ret;exact ⟨oE,oL⟩
  ·
   rw [if_neg c12] at H;obtain ⟨c12b0,c12b1⟩:=eF c12;by_cases c28 : a0_0 = 14
   ·
    rw [if_pos c28] at H;obtain ⟨c28b0,c28b1⟩:=eT c28;clear c28;obtain rfl:=Option.some.inj H;go_enter Tryz.func95,Tryz.ntmps95;go_wp2_with (first | ((with_reducible refine gD 1 rfl ?_);refine bX (w:=w) #[.int .i64 a0_0,.int .i64 a0_1,.int .i64 a0_2,.int .i64 a0_3,.int .i64 a0_4,.int .i64 a0_5,.int .i64 a0_6] 68 ?_;clear HB;intro gb101 w29 HB BK101 GW101;refine zz7 BK101.out ?_;intros));go_ret;exact ⟨oE,oL⟩
   ·
    rw [if_neg c28] at H;obtain ⟨c28b0,c28b1⟩:=eF c28;obtain rfl:=Option.some.inj H;go_enter Tryz.func95,Tryz.ntmps95;go_wp2_with (first | ((with_reducible refine gD 1 rfl ?_);refine bX (w:=w) #[.int .i64 a0_0,.int .i64 a0_1,.int .i64 a0_2,.int .i64 a0_3,.int .i64 a0_4,.int .i64 a0_5,.int .i64 a0_6] 68 ?_;clear HB;intro gb101 w31 HB BK101 GW101;refine zz7 BK101.out ?_;intros));go_ret;exact ⟨oE,oL⟩
def impl_needsOf.f (a0 : Int) : Option (Int):=(some (([0,5,1,4,2,8,10,14] : List Int) : List Int)).bind fun y101 => (if 0 ≤ (wrap64 (Int.tdiv a0 2)) then (if (wrap64 (Int.tdiv a0 2)) < (y101.length : Int) then (some (rd y101 (wrap64 (Int.tdiv a0 2)))) else (none)) else (none))
set_option maxHeartbeats 8000000 in
set_option maxRecDepth 100000 in
theorem impl_needsOf.calls (a0 : Int) (r : Int) (w : World) (h : impl_needsOf.f a0 = some r) :
  Calls Tryz.prog 103 #[.int .i64 a0] w fun e w' => e = .returned (.int .i64 r) ∧ Below w.heap.size w w':=by
 have HB:=aS (Below.refl w.heap.size w);unfold impl_needsOf.f at h;have H:=h;clear h;obtain ⟨y101,hy101,H⟩:=bS H
 have Ny101:=aS hy101;clear hy101;obtain ⟨ji2,hji2⟩ : ∃ j_ : Int,(wrap64 (Int.tdiv a0 2)) = j_:=⟨_,rfl⟩;replace H : (if 0 ≤ (ji2) then (if (ji2) < (y101.length : Int) then (some (rd y101 (ji2))) else (none)) else (none)) = some r:=by first | (rw [hji2] at H;exact H) | (simp only [hji2] at H ⊢;exact H)
 have hji2w : (IntKind.i64.wrap (Int.tdiv a0 2)) = ji2:=(i64_w _).trans hji2;by_cases c3 : 0 ≤ (ji2)
 ·
  rw [if_pos c3] at H;have c3b0:=decide_eq_true c3;clear c3;by_cases c4 : (ji2) < (y101.length : Int)
  ·
   rw [if_pos c4] at H;have c4b0:=decide_eq_true c4;clear c4;obtain rfl:=Option.some.inj H;go_enter Tryz.func103,Tryz.ntmps103;go_wp2_with (first | ((with_reducible refine gate_dst (N:=3) rfl ?_);refine Kd.R_lit (Kd.int .i64) _ 3 ?hg (N:=3) ?hd (xs:=([0,5,1,4,2,8,10,14] : List Int)) (inner:=[.int .i64 0,.int .i64 5,.int .i64 1,.int .i64 4,.int .i64 2,.int .i64 8,.int .i64 10,.int .i64 14]) (ok:=fun _ => True) (okp:=fun _ => True) ?hr ?hp (fun _ hk => hk) trivial (Below.refl _ _) (Nat.le_refl _) (by simp) ?_;(case hd => rfl);(case hg => rfl);(case hr => first | (go_simp;done) | (go_simp;rfl));(case hp => exact (Reps.one (show Kd.M (Kd.int .i64) _ _ _ 0 [.int .i64 0] from rfl) (Reps.one (show Kd.M (Kd.int .i64) _ _ _ 5 [.int .i64 5] from rfl) (Reps.one (show Kd.M (Kd.int .i64) _ _ _ 1 [.int .i64 1] from rfl) (Reps.one (show Kd.M (Kd.int .i64) _ _ _ 4 [.int .i64 4] from rfl) (Reps.one (show Kd.M (Kd.int .i64) _ _ _ 2 [.int .i64 2] from rfl) (Reps.one (show Kd.M (Kd.int .i64) _ _ _ 8 [.int .i64 8] from rfl) (Reps.one (show Kd.M (Kd.int .i64) _ _ _ 10 [.int .i64 10] from rfl) (Reps.one (show Kd.M (Kd.int .i64) _ _ _ 14 [.int .i64 14] from rfl) (Reps.none _ _))))))))));intro v102 w5 ho6 hb hg_ hnew_;clear hg_ hnew_;(first | rw [← Ny101.out] at ho6 | (simp only [Int.reduceToNat] at ho6;rw [← Ny101.out] at ho6));refine mk2 (Kd.R_lower ho6 (below_size oL)) (xL hb) ?_;clear HB;intro HO103 HB;clear hb ho6;obtain ⟨Ao7,co7,eo7⟩:=Kd.R_slice HO103.out;subst eo7;have p104 : 0 ≤ ((ji2) : Int):=oZ;have q104 : (ji2) < (y101.length : Int):=oZ;obtain ⟨ad104,e104,hx104_0⟩:=Kd.at_int (Kd.R_reads' HO103.out).2.2 (ji2) p104 q104;cases e104;replace p104:=eq_true p104;replace q104:=eq_true q104));go_ret;exact ⟨by first | rfl | (simp [errW_none,errW_some] <;> rfl) | (simp only [← hji2];first | rfl | (simp [errW_none,errW_some] <;> rfl)) | (simp [*,errW_none,errW_some] <;> rfl),oL⟩
  · rw [if_neg c4] at H;exact absurd H (by simp)
 · rw [if_neg c3] at H;exact absurd H (by simp)
end Go.Proofs.YtjnifnhpnccpcaaGreat.J
