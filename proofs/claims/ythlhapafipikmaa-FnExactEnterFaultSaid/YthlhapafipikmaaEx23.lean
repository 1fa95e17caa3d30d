-- Made by this session's program gprint.py out of the translation. Not trusted: Lean checks it.
import Derived.Test.YthlhapafipikmaaEx0
import Derived.Test.YthlhapafipikmaaEx22
namespace Go.Proofs.Ythlhapafipikmaa.E
open Go.RowKit Go.Proofs.YthlhapafipikmaaW.PrintWords Go.Proofs.YthlhapafipikmaaW.PrintLast Go.Proofs.YthlhapafipikmaaW.PrintMore
attribute [local go_sem] max2_int min2_int max_two min_two max_three min_three max_four min_four   -- for this text's walks alone
set_option linter.unusedVariables false
set_option linter.unusedSimpArgs false

/-! ### impl_codeOf: function 104 -/
mutual
def impl_codeOf.j0 : Nat → Int → Int → Int → Bool → Option (Int)
 | 0,_,_,_,_ => none
 | k + 1,x0,x1,x2,x15 => if x15 = true then (some 2) else ((impl_kindOf.f k x2).bind fun t101 => ((impl_kindOf.f k (wrap64 ((wrap64 (x2 + x1)) - 1))).bind fun t102 => (if t101 = 1 then (impl_codeOf.j1 k x0 t101 t102 true) else (impl_codeOf.j1 k x0 t101 t102 (t102 == 1)))))
def impl_codeOf.j1 : Nat → Int → Int → Int → Bool → Option (Int)
 | 0,_,_,_,_ => none
 | k + 1,x0,x7,x8,x23 => if x23 = true then (some 1) else (if x0 = 2 then (if x7 = 3 then (some 3) else (if x8 = 3 then (some 3) else (some 0))) else (some 0))
end
def impl_codeOf.f (k : Nat) (a0 : Int) (a1 : Int) (a2 : Int) : Option (Int) := if a1 = 2 then (impl_codeOf.j0 k a0 a1 a2 ((Int.tmod a2 2) == 1)) else (impl_codeOf.j0 k a0 a1 a2 false)
theorem impl_codeOf.mono_l : ∀ k,(∀ y0 y1 y2 y3,LeO (impl_codeOf.j0 k y0 y1 y2 y3) (impl_codeOf.j0 (k + 1) y0 y1 y2 y3)) ∧ (∀ y0 y1 y2 y3,LeO (impl_codeOf.j1 k y0 y1 y2 y3) (impl_codeOf.j1 (k + 1) y0 y1 y2 y3))
 | 0 => ⟨fun _ _ _ _ r h => by simp [impl_codeOf.j0] at h,fun _ _ _ _ r h => by simp [impl_codeOf.j1] at h⟩
 | k + 1 => by
  obtain ⟨ih0,ih1⟩ := impl_codeOf.mono_l k
  refine ⟨?_,?_⟩
  ·
   intro y0 y1 y2 y3
   unfold impl_codeOf.j0
   with_reducible repeat' first | exact ih0 _ _ _ _ | exact ih1 _ _ _ _ | exact impl_kindOf.mono _ _ | exact LeO.refl _ | exact LeO.none _ | refine LeO.ite ?_ ?_ | refine LeO.bind ?_ (fun _ => ?_)
  ·
   intro y0 y1 y2 y3
   unfold impl_codeOf.j1
   with_reducible repeat' first | exact ih0 _ _ _ _ | exact ih1 _ _ _ _ | exact impl_kindOf.mono _ _ | exact LeO.refl _ | exact LeO.none _ | refine LeO.ite ?_ ?_ | refine LeO.bind ?_ (fun _ => ?_)
theorem impl_codeOf.mono : ∀ a0 a1 a2 k,LeO (impl_codeOf.f k a0 a1 a2) (impl_codeOf.f (k + 1) a0 a1 a2) := by
 intro a0 a1 a2 k
 obtain ⟨ih0,ih1⟩ := impl_codeOf.mono_l k
 unfold impl_codeOf.f
 with_reducible repeat' first | exact ih0 _ _ _ _ | exact ih1 _ _ _ _ | exact impl_kindOf.mono _ _ | exact LeO.refl _ | exact LeO.none _ | refine LeO.ite ?_ ?_ | refine LeO.bind ?_ (fun _ => ?_)
set_option maxHeartbeats 8000000 in
set_option maxRecDepth 100000 in
theorem impl_codeOf.calls (k : Nat) (a0 : Int) (a1 : Int) (a2 : Int) (r : Int) (w : World) (h : impl_codeOf.f k a0 a1 a2 = some r) :
  Calls Try.prog 104 #[.int .i64 a0,.int .i64 a1,.int .i64 a2] w fun e w' => e = .returned (.int .i64 r) ∧ Drawn0 w w' := by
 unfold impl_codeOf.f at h;have H := h;clear h;have HC4 := aS H;clear H;go_enter Try.func104,Try.ntmps104;go_upto_region 1 with (fail);go_cut [15] (fun v15 wc => ∃ (kq : Nat) (x15_3 : Bool),v15 = .bool x15_3 ∧ Aside0 (impl_codeOf.j0 kq a0 a1 a2 x15_3 = some r) ∧ Aside0 (kq ≤ k) ∧ Drawn0 w wc)
 case first =>
  have H := HC4.out;clear HC4;by_cases c5 : a1 = 2;{rw [if_pos c5] at H;obtain ⟨c5b0,c5b1⟩ := eT c5;clear c5;(first | rw [c5b0] | (simp only [i64_w,i32_w];rw [c5b0]) | skip);have H' := aS H;clear H;go_wp2;go_meet;case rel => exact ⟨_,(((Int.tmod a2 2) == 1)),oE,H',⟨by first | omega | exact Nat.le_refl _⟩,by repeat (first | exact Drawn0.refl _ | apply Drawn0.step)⟩};{rw [if_neg c5] at H;obtain ⟨c5b0,c5b1⟩ := eF c5;(first | rw [c5b0] | (simp only [i64_w,i32_w];rw [c5b0]) | skip);have H' := aS H;clear H;go_wp2;go_meet;case rel => exact ⟨_,(false),oE,H',⟨by first | omega | exact Nat.le_refl _⟩,by repeat (first | exact Drawn0.refl _ | apply Drawn0.step)⟩}
 case rest =>
  clear HC4;obtain ⟨kq,x15_3,rfl,HA,HJ3,⟨mc3,rfl⟩⟩ := hcut;cases kq with
  | zero => exact absurd HA.out (by simp [impl_codeOf.j0])
  | succ kj3 =>
   have H := HA.out;clear HA;simp only [impl_codeOf.j0] at H;by_cases c6 : x15_3 = true;{subst c6;replace H := iT H;obtain rfl := Option.some.inj H;go_wp2;go_ret;exact ⟨by first | rfl | (simp;done) | (simp [*];done),by repeat (first | exact Drawn0.refl _ | apply Drawn0.step)⟩}
   ·
    replace c6 := Bool.eq_false_iff.mpr c6;subst c6;replace H := iF H;obtain ⟨t101,A7,H⟩ := bA_ H;obtain ⟨t102,A8,H⟩ := bA_ H;have HC9 := aS H;clear H;go_upto_region 4 with (first | ((with_reducible refine gate_callee (f := 130) rfl ?_);refine goesQ (some 17) Try.func130 #[.int .i64 a2] (impl_kindOf.calls kj3 a2 t101 _ A7.out) fun nd => ?_) | ((with_reducible refine gate_callee (f := 130) rfl ?_);refine goesQ (some 22) Try.func130 #[.int .i64 (wrap64 ((wrap64 (a2 + a1)) - 1))] (impl_kindOf.calls kj3 (wrap64 ((wrap64 (a2 + a1)) - 1)) t102 _ A8.out) fun nd => ?_));(try simp only [Act.put,List.setIfInBounds_toArray,List.set_cons_zero,List.set_cons_succ]);go_cut [23] (fun v23 wc => ∃ (kq : Nat) (x23_8 : Bool),v23 = .bool x23_8 ∧ Aside0 (impl_codeOf.j1 kq a0 t101 t102 x23_8 = some r) ∧ Aside0 (kq ≤ kj3) ∧ Drawn0 w wc)
    case first =>
     have H := HC9.out;clear HC9;by_cases c10 : t101 = 1;{rw [if_pos c10] at H;obtain ⟨c10b0,c10b1⟩ := eT c10;clear c10;(first | rw [c10b0] | (simp only [i64_w,i32_w];rw [c10b0]) | skip);have H' := aS H;clear H;go_wp2;go_meet;case rel => exact ⟨_,(true),oE,H',⟨by have := HJ3.out;first | omega | exact Nat.le_refl _⟩,by repeat (first | exact Drawn0.refl _ | apply Drawn0.step)⟩};{rw [if_neg c10] at H;obtain ⟨c10b0,c10b1⟩ := eF c10;(first | rw [c10b0] | (simp only [i64_w,i32_w];rw [c10b0]) | skip);have H' := aS H;clear H;go_wp2;go_meet;case rel => exact ⟨_,((t102 == 1)),oE,H',⟨by have := HJ3.out;first | omega | exact Nat.le_refl _⟩,by repeat (first | exact Drawn0.refl _ | apply Drawn0.step)⟩}
    case rest =>
     clear HC9;obtain ⟨kq,x23_8,rfl,HA,HJ8,⟨mc8,rfl⟩⟩ := hcut;cases kq with
     | zero => exact absurd HA.out (by simp [impl_codeOf.j1])
     | succ kj8 =>
      have H := HA.out;clear HA;simp only [impl_codeOf.j1] at H;by_cases c11 : x23_8 = true;{subst c11;replace H := iT H;obtain rfl := Option.some.inj H;go_wp2;go_ret;exact ⟨by first | rfl | (simp;done) | (simp [*];done),by repeat (first | exact Drawn0.refl _ | apply Drawn0.step)⟩}
      ·
       replace c11 := Bool.eq_false_iff.mpr c11;subst c11;replace H := iF H;by_cases c12 : a0 = 2
       ·
        rw [if_pos c12] at H;obtain ⟨c12b0,c12b1⟩ := eT c12;clear c12;by_cases c13 : t101 = 3;{rw [if_pos c13] at H;obtain ⟨c13b0,c13b1⟩ := eT c13;clear c13;obtain rfl := Option.some.inj H;go_wp2;go_ret;exact ⟨by first | rfl | (simp;done) | (simp [*];done),by repeat (first | exact Drawn0.refl _ | apply Drawn0.step)⟩}
        ·
         rw [if_neg c13] at H;obtain ⟨c13b0,c13b1⟩ := eF c13;by_cases c14 : t102 = 3;{rw [if_pos c14] at H;obtain ⟨c14b0,c14b1⟩ := eT c14;clear c14;obtain rfl := Option.some.inj H;go_wp2;go_ret;exact ⟨by first | rfl | (simp;done) | (simp [*];done),by repeat (first | exact Drawn0.refl _ | apply Drawn0.step)⟩};{rw [if_neg c14] at H;obtain ⟨c14b0,c14b1⟩ := eF c14;obtain rfl := Option.some.inj H;go_wp2;go_ret;exact ⟨by first | rfl | (simp;done) | (simp [*];done),by repeat (first | exact Drawn0.refl _ | apply Drawn0.step)⟩}
       · rw [if_neg c12] at H;obtain ⟨c12b0,c12b1⟩ := eF c12;obtain rfl := Option.some.inj H;go_wp2;go_ret;exact ⟨by first | rfl | (simp;done) | (simp [*];done),by repeat (first | exact Drawn0.refl _ | apply Drawn0.step)⟩

end Go.Proofs.Ythlhapafipikmaa.E
