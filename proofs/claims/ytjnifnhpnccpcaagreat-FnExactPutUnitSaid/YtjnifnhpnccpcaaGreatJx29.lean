-- Made by this session's program gprint.py out of the translation. Not trusted: Lean checks it.
import Derived.Test.YtjnifnhpnccpcaaGreatJx0
import Derived.Test.YtjnifnhpnccpcaaGreatJx28
namespace Go.Proofs.YtjnifnhpnccpcaaGreat.J
open Go.RowKit Go.Proofs.YtjnifnhpnccpcaaGreatW.PrintWords Go.Proofs.YtjnifnhpnccpcaaGreatW.PrintLast Go.Proofs.YtjnifnhpnccpcaaGreatW.PrintMore
attribute [local go_sem] max2_int min2_int max_two min_two max_three min_three max_four min_four
set_option linter.unusedVariables false
set_option linter.unusedSimpArgs false
def slices_BinarySearchFunc_75_g76.l0 : Nat → List (S60) → Int → Int → Int → Int → Option (Int × Bool)
 | 0,_,_,_,_,_ => none
 | k + 1,x0,x1,x8,x9,x10 => if x9 < x10 then (if 0 ≤ (wrap64 ((IntKind.u64.wrap (wrap64 (x9 + x10))) / 2)) then (if (wrap64 ((IntKind.u64.wrap (wrap64 (x9 + x10))) / 2)) < (x0.length : Int) then ((impl_Store_find_1.f ((rd_T60 x0 (wrap64 ((IntKind.u64.wrap (wrap64 (x9 + x10))) / 2))).f0.f0) ((rd_T60 x0 (wrap64 ((IntKind.u64.wrap (wrap64 (x9 + x10))) / 2))).f0.f1) ((rd_T60 x0 (wrap64 ((IntKind.u64.wrap (wrap64 (x9 + x10))) / 2))).f0.f2) ((rd_T60 x0 (wrap64 ((IntKind.u64.wrap (wrap64 (x9 + x10))) / 2))).f1) x1).bind fun t102 => (if t102 < 0 then (slices_BinarySearchFunc_75_g76.l0 k x0 x1 x8 (wrap64 ((wrap64 ((IntKind.u64.wrap (wrap64 (x9 + x10))) / 2)) + 1)) x10) else (slices_BinarySearchFunc_75_g76.l0 k x0 x1 x8 x9 (wrap64 ((IntKind.u64.wrap (wrap64 (x9 + x10))) / 2))))) else (none)) else (none)) else (if x9 < x8 then (if 0 ≤ x9 then (if x9 < (x0.length : Int) then ((impl_Store_find_1.f ((rd_T60 x0 x9).f0.f0) ((rd_T60 x0 x9).f0.f1) ((rd_T60 x0 x9).f0.f2) ((rd_T60 x0 x9).f1) x1).bind fun t104 => (some (x9,(t104 == 0)))) else (none)) else (none)) else (some (x9,false)))
def slices_BinarySearchFunc_75_g76.f (k : Nat) (l0 : List (S60)) (a1 : Int)  : Option (Int × Bool):=slices_BinarySearchFunc_75_g76.l0 k l0 a1 (l0.length : Int) 0 (l0.length : Int)
set_option maxHeartbeats 8000000 in
set_option maxRecDepth 100000 in
theorem slices_BinarySearchFunc_75_g76.calls (k : Nat) (A0 : Option Addr) (c0 : Nat) (l0 : List (S60)) (a1 : Int)  (r1 : Int) (r2 : Bool) (w : World) (hr0 : Kd.C k60 w A0 l0.length l0) (hc0 : l0.length ≤ c0) (h : slices_BinarySearchFunc_75_g76.f k l0 a1 = some (r1,r2)) :
  Calls Tryz.prog 75 #[.slice A0 l0.length c0,.int .i64 a1,(.func (.func 76) #[] #[])] w fun e w' => e = .returned (.tuple #[.int .i64 r1,.bool r2]) ∧ Below w.heap.size w w':=by
 have hu60:=Tryz.underlying60;have HR0:=aS hr0;have HC0:=aS hc0;clear hr0 hc0;have HB:=aS (Below.refl w.heap.size w);unfold slices_BinarySearchFunc_75_g76.f at h;have H:=h;clear h;have H':=aS H;clear H;go_enter Tryz.func75,Tryz.ntmps75;go_wp2;go_loopg [9,10] k (fun kq v9 v10 w' => ∃ (x9_1 : Int) (x10_1 : Int),v9 = .int .i64 x9_1 ∧ v10 = .int .i64 x10_1 ∧ Aside0 (slices_BinarySearchFunc_75_g76.l0 kq l0 a1 (l0.length : Int) x9_1 x10_1 = some (r1,r2)) ∧ Aside0 (kq ≤ k) ∧ Aside0 (Below w.heap.size w w'))
 case atStart => exact ⟨(0),((l0.length : Int)),oE,oE,H',⟨Nat.le_refl _⟩,⟨oL⟩⟩
 case round =>
  clear H';obtain ⟨x9_1,x10_1,rfl,rfl,HA,HK1,HB⟩:=hrel;cases gk with
  | zero => exact absurd HA.out (by simp [slices_BinarySearchFunc_75_g76.l0])
  | succ k1 =>
   have H:=HA.out;clear HA;simp only [slices_BinarySearchFunc_75_g76.l0] at H;by_cases c4 : x9_1 < x10_1
   ·
    rw [if_pos c4] at H;have c4b0:=decide_eq_true c4;clear c4;obtain ⟨ji5,hji5⟩ : ∃ j_ : Int,(wrap64 ((IntKind.u64.wrap (wrap64 (x9_1 + x10_1))) / 2)) = j_:=⟨_,rfl⟩;replace H : (if 0 ≤ (ji5) then (if (ji5) < (l0.length : Int) then ((impl_Store_find_1.f ((rd_T60 l0 (ji5)).f0.f0) ((rd_T60 l0 (ji5)).f0.f1) ((rd_T60 l0 (ji5)).f0.f2) ((rd_T60 l0 (ji5)).f1) a1).bind fun t102 => (if t102 < 0 then (slices_BinarySearchFunc_75_g76.l0 k1 l0 a1 (l0.length : Int) (wrap64 ((ji5) + 1)) x10_1) else (slices_BinarySearchFunc_75_g76.l0 k1 l0 a1 (l0.length : Int) x9_1 ji5))) else (none)) else (none)) = some (r1,r2):=by first | (rw [hji5] at H;exact H) | (simp only [hji5] at H ⊢;exact H)
    have hji5w : (IntKind.i64.wrap ((IntKind.u64.wrap (wrap64 (x9_1 + x10_1))) / 2)) = ji5:=(i64_w _).trans hji5;by_cases c6 : 0 ≤ (ji5)
    ·
     rw [if_pos c6] at H;have c6b0:=decide_eq_true c6;clear c6;by_cases c7 : (ji5) < (l0.length : Int)
     ·
      rw [if_pos c7] at H;have c7b0:=decide_eq_true c7;clear c7;obtain ⟨t102,A8,H⟩:=bA_ H;by_cases c9 : t102 < 0
      ·
       rw [if_pos c9] at H;have c9b0:=decide_eq_true c9;clear c9;have H':=aS H;clear H;have p101 : 0 ≤ ((ji5) : Int):=oZ;have q101 : (ji5) < (l0.length : Int):=oZ;obtain ⟨ad101,A101_2,c101_2,e101,hx101_0,hx101_1,hx101_2,hx101_3,hl101_2,hi101_2⟩:=at_T60 HR0.out (ji5) p101 q101;cases e101
       replace hx101_0:=oJ HB hx101_0;replace hx101_1:=oJ HB hx101_1;replace hx101_2:=oJ HB hx101_2;replace hx101_3:=oJ HB hx101_3;have HR101_2:=aS hi101_2;have HC101_2:=aS hl101_2;clear hi101_2 hl101_2;replace p101:=eq_true p101;replace q101:=eq_true q101;go_wp2_with (first | (go_at_call 76;(with_reducible refine (impl_Store_find_1.calls ((rd_T60 l0 (ji5)).f0.f0) ((rd_T60 l0 (ji5)).f0.f1) _ _ ((rd_T60 l0 (ji5)).f0.f2) ((rd_T60 l0 (ji5)).f1) a1 t102 _ ?side1 ?side2 A8.out).mono ?_);(case side1 => exact oC HR101_2.out);(case side2 => exact HC101_2.out);rintro e w10 ⟨rfl,hb⟩;refine mk1 (xL hb) ?_;clear HB;intro HB));go_roundg k1;case measure => have:=HK1.out;omega
       case rel => exact ⟨(wrap64 ((ji5) + 1)),(x10_1),(by first | rfl | (simp;done) | (simp only [← hji5] <;> (first | rfl | simp)) | (simp [*];done)),oE,(by first | exact H' | (rw [hji5];exact H')),⟨by have:=HK1.out;omega⟩,⟨oL⟩⟩
      ·
       rw [if_neg c9] at H;have c9b0:=decide_eq_false c9;clear c9;have H':=aS H;clear H;have p101 : 0 ≤ ((ji5) : Int):=oZ;have q101 : (ji5) < (l0.length : Int):=oZ;obtain ⟨ad101,A101_2,c101_2,e101,hx101_0,hx101_1,hx101_2,hx101_3,hl101_2,hi101_2⟩:=at_T60 HR0.out (ji5) p101 q101;cases e101
       replace hx101_0:=oJ HB hx101_0;replace hx101_1:=oJ HB hx101_1;replace hx101_2:=oJ HB hx101_2;replace hx101_3:=oJ HB hx101_3;have HR101_2:=aS hi101_2;have HC101_2:=aS hl101_2;clear hi101_2 hl101_2;replace p101:=eq_true p101;replace q101:=eq_true q101;go_wp2_with (first | (go_at_call 76;(with_reducible refine (impl_Store_find_1.calls ((rd_T60 l0 (ji5)).f0.f0) ((rd_T60 l0 (ji5)).f0.f1) _ _ ((rd_T60 l0 (ji5)).f0.f2) ((rd_T60 l0 (ji5)).f1) a1 t102 _ ?side1 ?side2 A8.out).mono ?_);(case side1 => exact oC HR101_2.out);(case side2 => exact HC101_2.out);rintro e w11 ⟨rfl,hb⟩;refine mk1 (xL hb) ?_;clear HB;intro HB));go_roundg k1;case measure => have:=HK1.out;omega
       case rel => exact ⟨(x9_1),(ji5),oE,(by first | rfl | (simp;done) | (simp only [← hji5] <;> (first | rfl | simp)) | (simp [*];done)),(by first | exact H' | (rw [hji5];exact H')),⟨by have:=HK1.out;omega⟩,⟨oL⟩⟩
     · rw [if_neg c7] at H;exact absurd H (by simp)
    · rw [if_neg c6] at H;exact absurd H (by simp)
   ·
    rw [if_neg c4] at H;have c4b0:=decide_eq_false c4;clear c4;by_cases c12 : x9_1 < (l0.length : Int)
    ·
     rw [if_pos c12] at H;have c12b0:=decide_eq_true c12;clear c12;by_cases c13 : 0 ≤ x9_1
     ·
      rw [if_pos c13] at H;have c13b0:=decide_eq_true c13;clear c13;by_cases c14 : x9_1 < (l0.length : Int)
      ·
       rw [if_pos c14] at H;have c14b0:=decide_eq_true c14;clear c14;obtain ⟨t104,A15,H⟩:=bA_ H;simp only [Option.some.injEq,Prod.mk.injEq] at H;obtain ⟨rfl,rfl⟩:=H;have p103 : 0 ≤ (x9_1 : Int):=oZ;have q103 : x9_1 < (l0.length : Int):=oZ;obtain ⟨ad103,A103_2,c103_2,e103,hx103_0,hx103_1,hx103_2,hx103_3,hl103_2,hi103_2⟩:=at_T60 HR0.out x9_1 p103 q103;cases e103
       replace hx103_0:=oJ HB hx103_0;replace hx103_1:=oJ HB hx103_1;replace hx103_2:=oJ HB hx103_2;replace hx103_3:=oJ HB hx103_3;have HR103_2:=aS hi103_2;have HC103_2:=aS hl103_2;clear hi103_2 hl103_2;replace p103:=eq_true p103;replace q103:=eq_true q103;go_wp2_with (first | (go_at_call 76;(with_reducible refine (impl_Store_find_1.calls ((rd_T60 l0 x9_1).f0.f0) ((rd_T60 l0 x9_1).f0.f1) _ _ ((rd_T60 l0 x9_1).f0.f2) ((rd_T60 l0 x9_1).f1) a1 t104 _ ?side1 ?side2 A15.out).mono ?_);(case side1 => exact oC HR103_2.out);(case side2 => exact HC103_2.out);rintro e w16 ⟨rfl,hb⟩;refine mk1 (xL hb) ?_;clear HB;intro HB));go_ret2;exact ⟨oE,oL⟩
      · rw [if_neg c14] at H;exact absurd H (by simp)
     · rw [if_neg c13] at H;exact absurd H (by simp)
    · rw [if_neg c12] at H;have c12b0:=decide_eq_false c12;clear c12;simp only [Option.some.injEq,Prod.mk.injEq] at H;obtain ⟨rfl,rfl⟩:=H;go_wp2;go_ret2;exact ⟨oE,oL⟩
end Go.Proofs.YtjnifnhpnccpcaaGreat.J
