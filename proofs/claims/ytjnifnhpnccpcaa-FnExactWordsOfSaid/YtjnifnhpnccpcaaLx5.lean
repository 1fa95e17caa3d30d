-- Made by this session's program gprint.py out of the translation. Not trusted: Lean checks it.
import Derived.Test.YtjnifnhpnccpcaaLx0
import Derived.Test.YtjnifnhpnccpcaaLx4
namespace Go.Proofs.Ytjnifnhpnccpcaa.L
open Go.RowKit Go.Proofs.YtjnifnhpnccpcaaW.PrintWords Go.Proofs.YtjnifnhpnccpcaaW.PrintLast Go.Proofs.YtjnifnhpnccpcaaW.PrintMore
attribute [local go_sem] max2_int min2_int max_two min_two max_three min_three max_four min_four   -- for this text's walks alone
set_option linter.unusedVariables false
set_option linter.unusedSimpArgs false

/-! ### laws_eqMicroS: function 64 -/
def laws_eqMicroS.l0 : Nat → List (S88) → List (S88) → Int → Option (Bool)
 | 0, _, _, _ => none
 | k + 1, x0, x1, x5 => if x5 < (x0.length : Int) then (if 0 ≤ x5 then (if x5 < (x1.length : Int) then ((laws_eqMicro.f ((rd_T88 x0 x5).f0.f0) ((rd_T88 x0 x5).f0.f1) ((rd_T88 x0 x5).f0.f2) ((rd_T88 x0 x5).f0.f3.f0) ((rd_T88 x0 x5).f0.f3.f1) ((rd_T88 x0 x5).f0.f3.f2) ((rd_T88 x0 x5).f0.f4) ((rd_T88 x0 x5).f1) ((rd_T88 x0 x5).f2) ((rd_T88 x1 x5).f0.f0) ((rd_T88 x1 x5).f0.f1) ((rd_T88 x1 x5).f0.f2) ((rd_T88 x1 x5).f0.f3.f0) ((rd_T88 x1 x5).f0.f3.f1) ((rd_T88 x1 x5).f0.f3.f2) ((rd_T88 x1 x5).f0.f4) ((rd_T88 x1 x5).f1) ((rd_T88 x1 x5).f2)).bind fun t103 => (if t103 = true then (laws_eqMicroS.l0 k x0 x1 (wrap64 (x5 + 1))) else (some false))) else (none)) else (none)) else (some true)
def laws_eqMicroS.f (k : Nat) (l0 : List (S88)) (l1 : List (S88)) : Option (Bool) := if (l0.length : Int) = (l1.length : Int) then (laws_eqMicroS.l0 k l0 l1 0) else (some false)
theorem laws_eqMicroS.mono_l : ∀ k, (∀ y0 y1 y2, LeO (laws_eqMicroS.l0 k y0 y1 y2) (laws_eqMicroS.l0 (k + 1) y0 y1 y2))
 | 0 => fun _ _ _ r h => by simp [laws_eqMicroS.l0] at h
 | k + 1 => by
  have ih0 := laws_eqMicroS.mono_l k
  ·
   intro y0 y1 y2
   unfold laws_eqMicroS.l0
   repeat' first
   | (with_reducible exact ih0 _ _ _)
   | (with_reducible exact LeO.refl _)
   | (with_reducible exact LeO.none _)
   | (with_reducible refine LeO.ite ?_ ?_)
   | (with_reducible refine LeO.bind ?_ (fun _ => ?_))
   | exact ih0 _ _ _
   | exact LeO.none _
   | refine LeO.ite ?_ ?_
   | refine LeO.bind ?_ (fun _ => ?_)
theorem laws_eqMicroS.mono : ∀ a0 a1 k, LeO (laws_eqMicroS.f k a0 a1) (laws_eqMicroS.f (k + 1) a0 a1) := by
 intro a0 a1 k
 have ih0 := laws_eqMicroS.mono_l k
 unfold laws_eqMicroS.f
 repeat' first
   | (with_reducible exact ih0 _ _ _)
   | (with_reducible exact LeO.refl _)
   | (with_reducible exact LeO.none _)
   | (with_reducible refine LeO.ite ?_ ?_)
   | (with_reducible refine LeO.bind ?_ (fun _ => ?_))
   | exact ih0 _ _ _
   | exact LeO.none _
   | refine LeO.ite ?_ ?_
   | refine LeO.bind ?_ (fun _ => ?_)
def laws_eqMicroS.T6 : Bool × List (List Nat × List Nat) := (true, [([], []), ([], []), ([0, 1], [0, 1]), ([2], [2]), ([], []), ([], []), ([4, 5], [4, 5]), ([6], [6]), ([3, 7], [3, 7]), ([8], [8])])
def laws_eqMicroS.B6 : List Nat := [0, 0, 3, 7, 0, 0, 48, 112, 255, 511]
theorem laws_eqMicroS.tab6 : rtab .any (opsOf Try.f64 6) = laws_eqMicroS.T6 := by kernel_rfl
theorem laws_eqMicroS.bits6 : waitsOk laws_eqMicroS.T6.2 laws_eqMicroS.B6 = true := by kernel_rfl
set_option maxHeartbeats 8000000 in
set_option maxRecDepth 100000 in
theorem laws_eqMicroS.calls (k : Nat) (A0 : Option Addr) (c0 : Nat) (l0 : List (S88)) (A1 : Option Addr) (c1 : Nat) (l1 : List (S88)) (r : Bool) (w : World) (hr0 : Kd.C k88 w A0 l0.length l0) (hc0 : l0.length ≤ c0) (hr1 : Kd.C k88 w A1 l1.length l1) (hc1 : l1.length ≤ c1) (h : laws_eqMicroS.f k l0 l1 = some r) :
  Calls Try.prog 64 #[.slice A0 l0.length c0, .slice A1 l1.length c1] w fun e w' => e = .returned (.bool r) ∧ Below w.heap.size w w' := by
 have hu88 := Try.underlying88; have HR0 := Aside0.mk hr0; have HC0 := Aside0.mk hc0; clear hr0 hc0; have HR1 := Aside0.mk hr1; have HC1 := Aside0.mk hc1; clear hr1 hc1; have HB := Aside0.mk (Below.refl w.heap.size w); have H : (if (l0.length : Int) = (l1.length : Int) then (laws_eqMicroS.l0 k l0 l1 0) else (some false)) = some r := h; clear h; by_cases c3 : (l0.length : Int) = (l1.length : Int)
 ·
  rw [if_pos c3] at H; obtain ⟨c3b0, c3b1⟩ := eT c3; have c3b2 : (l0.length == l1.length) = true := by first | simpa using c3 | (simp at c3 ⊢; omega)
  clear c3; have H' := Aside0.mk H; clear H; go_enter Try.func64, Try.ntmps64; go_wp2; go_loopg [5] k (fun kq v5 w' => ∃ (x5_1 : Int), v5 = .int .i64 x5_1 ∧ Aside0 (laws_eqMicroS.l0 kq l0 l1 x5_1 = some r) ∧ Aside0 (kq ≤ k) ∧ Aside0 (Below w.heap.size w w'))
  case atStart => exact ⟨(0), (by first | rfl | (simp; done) | (simp [*]; done)), H', ⟨Nat.le_refl _⟩, ⟨by repeat (first | (with_reducible first | exact HB.out | apply below_alloc | apply pw_below_drewN | apply below_drew1) | exact HB.out)⟩⟩
  case round =>
   clear H'; (try clear c1); (try clear p2); (try clear c3); (try clear c3b0); (try clear c3b1); (try clear c3b2); obtain ⟨x5_1, rfl, HA, HK1, HB⟩ := hrel; cases gk with
   | zero => exact absurd HA.out (by simp [laws_eqMicroS.l0])
   | succ k1 =>
    have H := HA.out; clear HA; simp only [laws_eqMicroS.l0] at H; by_cases c4 : x5_1 < (l0.length : Int)
    ·
     rw [if_pos c4] at H; have c4b0 : decide (x5_1 < (l0.length : Int)) = true := decide_eq_true c4; clear c4; by_cases c5 : 0 ≤ x5_1
     ·
      rw [if_pos c5] at H; have c5b0 : decide (0 ≤ x5_1) = true := decide_eq_true c5; clear c5; by_cases c6 : x5_1 < (l1.length : Int)
      ·
       rw [if_pos c6] at H; have c6b0 : decide (x5_1 < (l1.length : Int)) = true := decide_eq_true c6; clear c6; obtain ⟨t103, A70, H⟩ := bE H; have A7 := Aside0.mk A70; clear A70; by_cases c8 : t103 = true
       ·
        subst c8; replace H := iT H; have H' := Aside0.mk H; clear H; try go_wp2
        have n0_ := Aside0.mk (below_drew1 HB.out); clear HB; have HB := n0_; clear n0_; have p101 : 0 ≤ (x5_1 : Int) := of_decide_eq_true (by first | (with_reducible assumption) | assumption); have q101 : x5_1 < (l0.length : Int) := of_decide_eq_true (by first | (with_reducible assumption) | assumption); obtain ⟨ad101, e101, hx101_0, hx101_1, hx101_2, hx101_3, hx101_4, hx101_5, hx101_6, hx101_7, hx101_8⟩ := at_T88 HR0.out x5_1 p101 q101; have hw101_8 := hx101_8; have hw101_7 := hx101_7; have hw101_6 := hx101_6; have hw101_5 := hx101_5; have hw101_4 := hx101_4; have hw101_3 := hx101_3; have hw101_2 := hx101_2; have hw101_1 := hx101_1; have hw101_0 := hx101_0; cases e101
        replace hx101_0 := (HB.out.cell (World.block_lt_of_cell? w _ hx101_0)).trans hx101_0; replace hx101_1 := (HB.out.cell (World.block_lt_of_cell? w _ hx101_1)).trans hx101_1; replace hx101_2 := (HB.out.cell (World.block_lt_of_cell? w _ hx101_2)).trans hx101_2; replace hx101_3 := (HB.out.cell (World.block_lt_of_cell? w _ hx101_3)).trans hx101_3; replace hx101_4 := (HB.out.cell (World.block_lt_of_cell? w _ hx101_4)).trans hx101_4; replace hx101_5 := (HB.out.cell (World.block_lt_of_cell? w _ hx101_5)).trans hx101_5; replace hx101_6 := (HB.out.cell (World.block_lt_of_cell? w _ hx101_6)).trans hx101_6; replace hx101_7 := (HB.out.cell (World.block_lt_of_cell? w _ hx101_7)).trans hx101_7; replace hx101_8 := (HB.out.cell (World.block_lt_of_cell? w _ hx101_8)).trans hx101_8; replace p101 := eq_true p101; replace q101 := eq_true q101; have p102 : 0 ≤ (x5_1 : Int) := of_decide_eq_true (by first | (with_reducible assumption) | assumption); have q102 : x5_1 < (l1.length : Int) := of_decide_eq_true (by first | (with_reducible assumption) | assumption); obtain ⟨ad102, e102, hx102_0, hx102_1, hx102_2, hx102_3, hx102_4, hx102_5, hx102_6, hx102_7, hx102_8⟩ := at_T88 HR1.out x5_1 p102 q102; have hw102_8 := hx102_8; have hw102_7 := hx102_7; have hw102_6 := hx102_6; have hw102_5 := hx102_5; have hw102_4 := hx102_4; have hw102_3 := hx102_3; have hw102_2 := hx102_2; have hw102_1 := hx102_1; have hw102_0 := hx102_0; cases e102
        replace hx102_0 := (HB.out.cell (World.block_lt_of_cell? w _ hx102_0)).trans hx102_0; replace hx102_1 := (HB.out.cell (World.block_lt_of_cell? w _ hx102_1)).trans hx102_1; replace hx102_2 := (HB.out.cell (World.block_lt_of_cell? w _ hx102_2)).trans hx102_2; replace hx102_3 := (HB.out.cell (World.block_lt_of_cell? w _ hx102_3)).trans hx102_3; replace hx102_4 := (HB.out.cell (World.block_lt_of_cell? w _ hx102_4)).trans hx102_4; replace hx102_5 := (HB.out.cell (World.block_lt_of_cell? w _ hx102_5)).trans hx102_5; replace hx102_6 := (HB.out.cell (World.block_lt_of_cell? w _ hx102_6)).trans hx102_6; replace hx102_7 := (HB.out.cell (World.block_lt_of_cell? w _ hx102_7)).trans hx102_7; replace hx102_8 := (HB.out.cell (World.block_lt_of_cell? w _ hx102_8)).trans hx102_8; replace p102 := eq_true p102; replace q102 := eq_true q102; refine start_ (n := 10) (S := fun w' => w'.cell? (ad101.add ((x5_1).toNat * 9)) = some (.int .i64 ((rd_T88 l0 x5_1).f0.f0)) ∧ w'.cell? ⟨(ad101.add ((x5_1).toNat * 9)).block, (ad101.add ((x5_1).toNat * 9)).off + 1, none⟩ = some (.int .i64 ((rd_T88 l0 x5_1).f0.f1)) ∧ w'.cell? ⟨(ad101.add ((x5_1).toNat * 9)).block, (ad101.add ((x5_1).toNat * 9)).off + 2, none⟩ = some (.int .i64 ((rd_T88 l0 x5_1).f0.f2)) ∧ w'.cell? ⟨(ad101.add ((x5_1).toNat * 9)).block, (ad101.add ((x5_1).toNat * 9)).off + 3, none⟩ = some (.int .i64 ((rd_T88 l0 x5_1).f0.f3.f0)) ∧ w'.cell? ⟨(ad101.add ((x5_1).toNat * 9)).block, (ad101.add ((x5_1).toNat * 9)).off + 4, none⟩ = some (.int .i64 ((rd_T88 l0 x5_1).f0.f3.f1)) ∧ w'.cell? ⟨(ad101.add ((x5_1).toNat * 9)).block, (ad101.add ((x5_1).toNat * 9)).off + 5, none⟩ = some (.int .i64 ((rd_T88 l0 x5_1).f0.f3.f2)) ∧ w'.cell? ⟨(ad101.add ((x5_1).toNat * 9)).block, (ad101.add ((x5_1).toNat * 9)).off + 6, none⟩ = some (.int .i64 ((rd_T88 l0 x5_1).f0.f4)) ∧ w'.cell? ⟨(ad101.add ((x5_1).toNat * 9)).block, (ad101.add ((x5_1).toNat * 9)).off + 7, none⟩ = some (.int .i64 ((rd_T88 l0 x5_1).f1)) ∧ w'.cell? ⟨(ad101.add ((x5_1).toNat * 9)).block, (ad101.add ((x5_1).toNat * 9)).off + 8, none⟩ = some (.bool ((rd_T88 l0 x5_1).f2)) ∧ w'.cell? (ad102.add ((x5_1).toNat * 9)) = some (.int .i64 ((rd_T88 l1 x5_1).f0.f0)) ∧ w'.cell? ⟨(ad102.add ((x5_1).toNat * 9)).block, (ad102.add ((x5_1).toNat * 9)).off + 1, none⟩ = some (.int .i64 ((rd_T88 l1 x5_1).f0.f1)) ∧ w'.cell? ⟨(ad102.add ((x5_1).toNat * 9)).block, (ad102.add ((x5_1).toNat * 9)).off + 2, none⟩ = some (.int .i64 ((rd_T88 l1 x5_1).f0.f2)) ∧ w'.cell? ⟨(ad102.add ((x5_1).toNat * 9)).block, (ad102.add ((x5_1).toNat * 9)).off + 3, none⟩ = some (.int .i64 ((rd_T88 l1 x5_1).f0.f3.f0)) ∧ w'.cell? ⟨(ad102.add ((x5_1).toNat * 9)).block, (ad102.add ((x5_1).toNat * 9)).off + 4, none⟩ = some (.int .i64 ((rd_T88 l1 x5_1).f0.f3.f1)) ∧ w'.cell? ⟨(ad102.add ((x5_1).toNat * 9)).block, (ad102.add ((x5_1).toNat * 9)).off + 5, none⟩ = some (.int .i64 ((rd_T88 l1 x5_1).f0.f3.f2)) ∧ w'.cell? ⟨(ad102.add ((x5_1).toNat * 9)).block, (ad102.add ((x5_1).toNat * 9)).off + 6, none⟩ = some (.int .i64 ((rd_T88 l1 x5_1).f0.f4)) ∧ w'.cell? ⟨(ad102.add ((x5_1).toNat * 9)).block, (ad102.add ((x5_1).toNat * 9)).off + 7, none⟩ = some (.int .i64 ((rd_T88 l1 x5_1).f1)) ∧ w'.cell? ⟨(ad102.add ((x5_1).toNat * 9)).block, (ad102.add ((x5_1).toNat * 9)).off + 8, none⟩ = some (.bool ((rd_T88 l1 x5_1).f2))) (ds := []) #[false, false, false, false, false, false, false, false, false, false] (by kernel_rfl) rfl rfl ⟨((HB.out.cell (World.block_lt_of_cell? w _ hw101_0)).trans hw101_0), ((HB.out.cell (World.block_lt_of_cell? w _ hw101_1)).trans hw101_1), ((HB.out.cell (World.block_lt_of_cell? w _ hw101_2)).trans hw101_2), ((HB.out.cell (World.block_lt_of_cell? w _ hw101_3)).trans hw101_3), ((HB.out.cell (World.block_lt_of_cell? w _ hw101_4)).trans hw101_4), ((HB.out.cell (World.block_lt_of_cell? w _ hw101_5)).trans hw101_5), ((HB.out.cell (World.block_lt_of_cell? w _ hw101_6)).trans hw101_6), ((HB.out.cell (World.block_lt_of_cell? w _ hw101_7)).trans hw101_7), ((HB.out.cell (World.block_lt_of_cell? w _ hw101_8)).trans hw101_8), ((HB.out.cell (World.block_lt_of_cell? w _ hw102_0)).trans hw102_0), ((HB.out.cell (World.block_lt_of_cell? w _ hw102_1)).trans hw102_1), ((HB.out.cell (World.block_lt_of_cell? w _ hw102_2)).trans hw102_2), ((HB.out.cell (World.block_lt_of_cell? w _ hw102_3)).trans hw102_3), ((HB.out.cell (World.block_lt_of_cell? w _ hw102_4)).trans hw102_4), ((HB.out.cell (World.block_lt_of_cell? w _ hw102_5)).trans hw102_5), ((HB.out.cell (World.block_lt_of_cell? w _ hw102_6)).trans hw102_6), ((HB.out.cell (World.block_lt_of_cell? w _ hw102_7)).trans hw102_7), ((HB.out.cell (World.block_lt_of_cell? w _ hw102_8)).trans hw102_8)⟩ (fun hHeld => ?_); refine with_tabW laws_eqMicroS.tab6 laws_eqMicroS.bits6 (fun HT_ HW_ => ?_)
        generalize wr.drew = w9 at HB hx101_0 hx101_1 hx101_2 hx101_3 hx101_4 hx101_5 hx101_6 hx101_7 hx101_8 hx102_0 hx102_1 hx102_2 hx102_3 hx102_4 hx102_5 hx102_6 hx102_7 hx102_8 hHeld ⊢; refine pure_ (i := 0) (N := some 17) (v := ?_) (a' := ?_) #[true, false, false, false, false, false, false, false, false, false] rfl rfl (any_of HT_.out (by kernel_rfl)) (fun _ _ _ h => h) (Or.inl ⟨by rfl, ?_⟩) ?_ ?_; rotate_left
        · intro w'; go_simp; with_reducible rfl
        rotate_left
        · simp only [Act.put, List.setIfInBounds_toArray, List.set_cons_zero, List.set_cons_succ, i64_w, i32_w]; rfl
        refine pure_ (i := 1) (N := some 18) (v := ?_) (a' := ?_) #[true, true, false, false, false, false, false, false, false, false] rfl rfl (any_of HT_.out (by kernel_rfl)) (fun _ _ _ h => h) (Or.inl ⟨by rfl, ?_⟩) ?_ ?_; rotate_left
        · intro w'; go_simp; with_reducible rfl
        rotate_left
        · simp only [Act.put, List.setIfInBounds_toArray, List.set_cons_zero, List.set_cons_succ, i64_w, i32_w]; rfl
        refine pure_ (i := 2) (N := some 19) (v := ?_) (a' := ?_) #[true, true, true, false, false, false, false, false, false, false] rfl rfl (any_of HT_.out (by kernel_rfl)) (fun _ _ _ h => h) (Or.inl ⟨by rfl, ?_⟩) ?_ ?_; rotate_left
        · intro w'; go_simp; with_reducible rfl
        rotate_left
        · simp only [Act.put, List.setIfInBounds_toArray, List.set_cons_zero, List.set_cons_succ, i64_w, i32_w]; rfl
        refine pure_ (i := 4) (N := some 21) (v := ?_) (a' := ?_) #[true, true, true, false, true, false, false, false, false, false] rfl rfl (any_of HT_.out (by kernel_rfl)) (fun _ _ _ h => h) (Or.inl ⟨by rfl, ?_⟩) ?_ ?_; rotate_left
        · intro w'; go_simp; with_reducible rfl
        rotate_left
        · simp only [Act.put, List.setIfInBounds_toArray, List.set_cons_zero, List.set_cons_succ, i64_w, i32_w]; rfl
        refine pure_ (i := 5) (N := some 22) (v := ?_) (a' := ?_) #[true, true, true, false, true, true, false, false, false, false] rfl rfl (any_of HT_.out (by kernel_rfl)) (fun _ _ _ h => h) (Or.inl ⟨by rfl, ?_⟩) ?_ ?_; rotate_left
        · intro w'; go_simp; with_reducible rfl
        rotate_left
        · simp only [Act.put, List.setIfInBounds_toArray, List.set_cons_zero, List.set_cons_succ, i64_w, i32_w]; rfl
        refine pure_ (i := 6) (N := some 23) (v := ?_) (a' := ?_) #[true, true, true, false, true, true, true, false, false, false] rfl rfl (any_of HT_.out (by kernel_rfl)) (fun _ _ _ h => h) (Or.inl ⟨by rfl, ?_⟩) ?_ ?_; rotate_left
        · intro w'; go_simp; with_reducible rfl
        rotate_left
        · simp only [Act.put, List.setIfInBounds_toArray, List.set_cons_zero, List.set_cons_succ, i64_w, i32_w]; rfl
        refine take_ (i := 3) (N := some 20) (v := ?_) (a' := ?_) #[true, true, true, true, true, true, true, false, false, false] rfl rfl (take_ofW HT_.out HW_.out (by kernel_rfl)) (fun _ _ _ h => h) (Or.inl ⟨by rfl, ?_⟩) hHeld ?_ ?_; rotate_left
        · rintro w' ⟨s0, s1, s2, s3, s4, s5, s6, s7, s8, s9, s10, s11, s12, s13, s14, s15, s16, s17⟩; go_simp; with_reducible rfl
        rotate_left
        · simp only [Act.put, List.setIfInBounds_toArray, List.set_cons_zero, List.set_cons_succ, i64_w, i32_w]; rfl
        refine take_ (i := 7) (N := some 24) (v := ?_) (a' := ?_) #[true, true, true, true, true, true, true, true, false, false] rfl rfl (take_ofW HT_.out HW_.out (by kernel_rfl)) (fun _ _ _ h => h) (Or.inl ⟨by rfl, ?_⟩) hHeld ?_ ?_; rotate_left
        · rintro w' ⟨s0, s1, s2, s3, s4, s5, s6, s7, s8, s9, s10, s11, s12, s13, s14, s15, s16, s17⟩; go_simp; with_reducible rfl
        rotate_left
        · simp only [Act.put, List.setIfInBounds_toArray, List.set_cons_zero, List.set_cons_succ, i64_w, i32_w]; rfl
        refine one_ (i := 8) (N := some 25) #[true, true, true, true, true, true, true, true, true, false] rfl rfl (one_of HT_.out (by kernel_rfl)) (by decide) (fun K hK => ?_); refine goesS Try.func111 #[.agg #[.int .i64 ((rd_T88 l0 x5_1).f0.f0), .int .i64 ((rd_T88 l0 x5_1).f0.f1), .int .i64 ((rd_T88 l0 x5_1).f0.f2), .int .i64 ((rd_T88 l0 x5_1).f0.f3.f0), .int .i64 ((rd_T88 l0 x5_1).f0.f3.f1), .int .i64 ((rd_T88 l0 x5_1).f0.f3.f2), .int .i64 ((rd_T88 l0 x5_1).f0.f4), .int .i64 ((rd_T88 l0 x5_1).f1), .bool ((rd_T88 l0 x5_1).f2)], .agg #[.int .i64 ((rd_T88 l1 x5_1).f0.f0), .int .i64 ((rd_T88 l1 x5_1).f0.f1), .int .i64 ((rd_T88 l1 x5_1).f0.f2), .int .i64 ((rd_T88 l1 x5_1).f0.f3.f0), .int .i64 ((rd_T88 l1 x5_1).f0.f3.f1), .int .i64 ((rd_T88 l1 x5_1).f0.f3.f2), .int .i64 ((rd_T88 l1 x5_1).f0.f4), .int .i64 ((rd_T88 l1 x5_1).f1), .bool ((rd_T88 l1 x5_1).f2)]] ?_; (with_reducible refine (laws_eqMicro.calls ((rd_T88 l0 x5_1).f0.f0) ((rd_T88 l0 x5_1).f0.f1) ((rd_T88 l0 x5_1).f0.f2) ((rd_T88 l0 x5_1).f0.f3.f0) ((rd_T88 l0 x5_1).f0.f3.f1) ((rd_T88 l0 x5_1).f0.f3.f2) ((rd_T88 l0 x5_1).f0.f4) ((rd_T88 l0 x5_1).f1) ((rd_T88 l0 x5_1).f2) ((rd_T88 l1 x5_1).f0.f0) ((rd_T88 l1 x5_1).f0.f1) ((rd_T88 l1 x5_1).f0.f2) ((rd_T88 l1 x5_1).f0.f3.f0) ((rd_T88 l1 x5_1).f0.f3.f1) ((rd_T88 l1 x5_1).f0.f3.f2) ((rd_T88 l1 x5_1).f0.f4) ((rd_T88 l1 x5_1).f1) ((rd_T88 l1 x5_1).f2) true _ A7.out).mono ?_); rintro e w10 ⟨rfl, hb⟩; refine ⟨_, rfl, ?_⟩; have n0_ := Aside0.mk (below_step oL hb); clear HB; have HB := n0_; clear n0_; (try clear hb); (try clear hb2); (try clear hk); (try clear hi); refine hK.out _ _ ⟨((HB.out.cell (World.block_lt_of_cell? w _ hw101_0)).trans hw101_0), ((HB.out.cell (World.block_lt_of_cell? w _ hw101_1)).trans hw101_1), ((HB.out.cell (World.block_lt_of_cell? w _ hw101_2)).trans hw101_2), ((HB.out.cell (World.block_lt_of_cell? w _ hw101_3)).trans hw101_3), ((HB.out.cell (World.block_lt_of_cell? w _ hw101_4)).trans hw101_4), ((HB.out.cell (World.block_lt_of_cell? w _ hw101_5)).trans hw101_5), ((HB.out.cell (World.block_lt_of_cell? w _ hw101_6)).trans hw101_6), ((HB.out.cell (World.block_lt_of_cell? w _ hw101_7)).trans hw101_7), ((HB.out.cell (World.block_lt_of_cell? w _ hw101_8)).trans hw101_8), ((HB.out.cell (World.block_lt_of_cell? w _ hw102_0)).trans hw102_0), ((HB.out.cell (World.block_lt_of_cell? w _ hw102_1)).trans hw102_1), ((HB.out.cell (World.block_lt_of_cell? w _ hw102_2)).trans hw102_2), ((HB.out.cell (World.block_lt_of_cell? w _ hw102_3)).trans hw102_3), ((HB.out.cell (World.block_lt_of_cell? w _ hw102_4)).trans hw102_4), ((HB.out.cell (World.block_lt_of_cell? w _ hw102_5)).trans hw102_5), ((HB.out.cell (World.block_lt_of_cell? w _ hw102_6)).trans hw102_6), ((HB.out.cell (World.block_lt_of_cell? w _ hw102_7)).trans hw102_7), ((HB.out.cell (World.block_lt_of_cell? w _ hw102_8)).trans hw102_8)⟩ (fun hHeld => ?_); clear hK K; refine norm_ (a' := ?_) ?_ ?_; rotate_left
        · show Act.put _ (some 25) _ = _; simp only [Act.put, List.setIfInBounds_toArray, List.set_cons_zero, List.set_cons_succ, i64_w, i32_w]; rfl
        refine pure_ (i := 9) (N := some 26) (v := ?_) (a' := ?_) #[true, true, true, true, true, true, true, true, true, true] rfl rfl (any_of HT_.out (by kernel_rfl)) (fun _ _ _ h => h) (Or.inl ⟨by rfl, ?_⟩) ?_ ?_; rotate_left
        · intro w'; go_simp; with_reducible rfl
        rotate_left
        · simp only [Act.put, List.setIfInBounds_toArray, List.set_cons_zero, List.set_cons_succ, i64_w, i32_w]; rfl
        refine done_ (done_of HT_.out (by kernel_rfl)) ?_; try go_wp2
        go_roundg k1; case measure => have := HK1.out; omega
        case rel => exact ⟨(wrap64 (x5_1 + 1)), (by first | rfl | (simp; done) | (simp [*]; done)), H', ⟨by have := HK1.out; omega⟩, ⟨by repeat (first | (with_reducible first | exact HB.out | apply below_alloc | apply pw_below_drewN | apply below_drew1) | exact HB.out)⟩⟩
       ·
        replace c8 := Bool.eq_false_iff.mpr c8; subst c8; replace H := iF H; obtain rfl := Option.some.inj H; try go_wp2
        have n0_ := Aside0.mk (below_drew1 HB.out); clear HB; have HB := n0_; clear n0_; have p101 : 0 ≤ (x5_1 : Int) := of_decide_eq_true (by first | (with_reducible assumption) | assumption); have q101 : x5_1 < (l0.length : Int) := of_decide_eq_true (by first | (with_reducible assumption) | assumption); obtain ⟨ad101, e101, hx101_0, hx101_1, hx101_2, hx101_3, hx101_4, hx101_5, hx101_6, hx101_7, hx101_8⟩ := at_T88 HR0.out x5_1 p101 q101; have hw101_8 := hx101_8; have hw101_7 := hx101_7; have hw101_6 := hx101_6; have hw101_5 := hx101_5; have hw101_4 := hx101_4; have hw101_3 := hx101_3; have hw101_2 := hx101_2; have hw101_1 := hx101_1; have hw101_0 := hx101_0; cases e101
        replace hx101_0 := (HB.out.cell (World.block_lt_of_cell? w _ hx101_0)).trans hx101_0; replace hx101_1 := (HB.out.cell (World.block_lt_of_cell? w _ hx101_1)).trans hx101_1; replace hx101_2 := (HB.out.cell (World.block_lt_of_cell? w _ hx101_2)).trans hx101_2; replace hx101_3 := (HB.out.cell (World.block_lt_of_cell? w _ hx101_3)).trans hx101_3; replace hx101_4 := (HB.out.cell (World.block_lt_of_cell? w _ hx101_4)).trans hx101_4; replace hx101_5 := (HB.out.cell (World.block_lt_of_cell? w _ hx101_5)).trans hx101_5; replace hx101_6 := (HB.out.cell (World.block_lt_of_cell? w _ hx101_6)).trans hx101_6; replace hx101_7 := (HB.out.cell (World.block_lt_of_cell? w _ hx101_7)).trans hx101_7; replace hx101_8 := (HB.out.cell (World.block_lt_of_cell? w _ hx101_8)).trans hx101_8; replace p101 := eq_true p101; replace q101 := eq_true q101; have p102 : 0 ≤ (x5_1 : Int) := of_decide_eq_true (by first | (with_reducible assumption) | assumption); have q102 : x5_1 < (l1.length : Int) := of_decide_eq_true (by first | (with_reducible assumption) | assumption); obtain ⟨ad102, e102, hx102_0, hx102_1, hx102_2, hx102_3, hx102_4, hx102_5, hx102_6, hx102_7, hx102_8⟩ := at_T88 HR1.out x5_1 p102 q102; have hw102_8 := hx102_8; have hw102_7 := hx102_7; have hw102_6 := hx102_6; have hw102_5 := hx102_5; have hw102_4 := hx102_4; have hw102_3 := hx102_3; have hw102_2 := hx102_2; have hw102_1 := hx102_1; have hw102_0 := hx102_0; cases e102
        replace hx102_0 := (HB.out.cell (World.block_lt_of_cell? w _ hx102_0)).trans hx102_0; replace hx102_1 := (HB.out.cell (World.block_lt_of_cell? w _ hx102_1)).trans hx102_1; replace hx102_2 := (HB.out.cell (World.block_lt_of_cell? w _ hx102_2)).trans hx102_2; replace hx102_3 := (HB.out.cell (World.block_lt_of_cell? w _ hx102_3)).trans hx102_3; replace hx102_4 := (HB.out.cell (World.block_lt_of_cell? w _ hx102_4)).trans hx102_4; replace hx102_5 := (HB.out.cell (World.block_lt_of_cell? w _ hx102_5)).trans hx102_5; replace hx102_6 := (HB.out.cell (World.block_lt_of_cell? w _ hx102_6)).trans hx102_6; replace hx102_7 := (HB.out.cell (World.block_lt_of_cell? w _ hx102_7)).trans hx102_7; replace hx102_8 := (HB.out.cell (World.block_lt_of_cell? w _ hx102_8)).trans hx102_8; replace p102 := eq_true p102; replace q102 := eq_true q102; refine start_ (n := 10) (S := fun w' => w'.cell? (ad101.add ((x5_1).toNat * 9)) = some (.int .i64 ((rd_T88 l0 x5_1).f0.f0)) ∧ w'.cell? ⟨(ad101.add ((x5_1).toNat * 9)).block, (ad101.add ((x5_1).toNat * 9)).off + 1, none⟩ = some (.int .i64 ((rd_T88 l0 x5_1).f0.f1)) ∧ w'.cell? ⟨(ad101.add ((x5_1).toNat * 9)).block, (ad101.add ((x5_1).toNat * 9)).off + 2, none⟩ = some (.int .i64 ((rd_T88 l0 x5_1).f0.f2)) ∧ w'.cell? ⟨(ad101.add ((x5_1).toNat * 9)).block, (ad101.add ((x5_1).toNat * 9)).off + 3, none⟩ = some (.int .i64 ((rd_T88 l0 x5_1).f0.f3.f0)) ∧ w'.cell? ⟨(ad101.add ((x5_1).toNat * 9)).block, (ad101.add ((x5_1).toNat * 9)).off + 4, none⟩ = some (.int .i64 ((rd_T88 l0 x5_1).f0.f3.f1)) ∧ w'.cell? ⟨(ad101.add ((x5_1).toNat * 9)).block, (ad101.add ((x5_1).toNat * 9)).off + 5, none⟩ = some (.int .i64 ((rd_T88 l0 x5_1).f0.f3.f2)) ∧ w'.cell? ⟨(ad101.add ((x5_1).toNat * 9)).block, (ad101.add ((x5_1).toNat * 9)).off + 6, none⟩ = some (.int .i64 ((rd_T88 l0 x5_1).f0.f4)) ∧ w'.cell? ⟨(ad101.add ((x5_1).toNat * 9)).block, (ad101.add ((x5_1).toNat * 9)).off + 7, none⟩ = some (.int .i64 ((rd_T88 l0 x5_1).f1)) ∧ w'.cell? ⟨(ad101.add ((x5_1).toNat * 9)).block, (ad101.add ((x5_1).toNat * 9)).off + 8, none⟩ = some (.bool ((rd_T88 l0 x5_1).f2)) ∧ w'.cell? (ad102.add ((x5_1).toNat * 9)) = some (.int .i64 ((rd_T88 l1 x5_1).f0.f0)) ∧ w'.cell? ⟨(ad102.add ((x5_1).toNat * 9)).block, (ad102.add ((x5_1).toNat * 9)).off + 1, none⟩ = some (.int .i64 ((rd_T88 l1 x5_1).f0.f1)) ∧ w'.cell? ⟨(ad102.add ((x5_1).toNat * 9)).block, (ad102.add ((x5_1).toNat * 9)).off + 2, none⟩ = some (.int .i64 ((rd_T88 l1 x5_1).f0.f2)) ∧ w'.cell? ⟨(ad102.add ((x5_1).toNat * 9)).block, (ad102.add ((x5_1).toNat * 9)).off + 3, none⟩ = some (.int .i64 ((rd_T88 l1 x5_1).f0.f3.f0)) ∧ w'.cell? ⟨(ad102.add ((x5_1).toNat * 9)).block, (ad102.add ((x5_1).toNat * 9)).off + 4, none⟩ = some (.int .i64 ((rd_T88 l1 x5_1).f0.f3.f1)) ∧ w'.cell? ⟨(ad102.add ((x5_1).toNat * 9)).block, (ad102.add ((x5_1).toNat * 9)).off + 5, none⟩ = some (.int .i64 ((rd_T88 l1 x5_1).f0.f3.f2)) ∧ w'.cell? ⟨(ad102.add ((x5_1).toNat * 9)).block, (ad102.add ((x5_1).toNat * 9)).off + 6, none⟩ = some (.int .i64 ((rd_T88 l1 x5_1).f0.f4)) ∧ w'.cell? ⟨(ad102.add ((x5_1).toNat * 9)).block, (ad102.add ((x5_1).toNat * 9)).off + 7, none⟩ = some (.int .i64 ((rd_T88 l1 x5_1).f1)) ∧ w'.cell? ⟨(ad102.add ((x5_1).toNat * 9)).block, (ad102.add ((x5_1).toNat * 9)).off + 8, none⟩ = some (.bool ((rd_T88 l1 x5_1).f2))) (ds := []) #[false, false, false, false, false, false, false, false, false, false] (by kernel_rfl) rfl rfl ⟨((HB.out.cell (World.block_lt_of_cell? w _ hw101_0)).trans hw101_0), ((HB.out.cell (World.block_lt_of_cell? w _ hw101_1)).trans hw101_1), ((HB.out.cell (World.block_lt_of_cell? w _ hw101_2)).trans hw101_2), ((HB.out.cell (World.block_lt_of_cell? w _ hw101_3)).trans hw101_3), ((HB.out.cell (World.block_lt_of_cell? w _ hw101_4)).trans hw101_4), ((HB.out.cell (World.block_lt_of_cell? w _ hw101_5)).trans hw101_5), ((HB.out.cell (World.block_lt_of_cell? w _ hw101_6)).trans hw101_6), ((HB.out.cell (World.block_lt_of_cell? w _ hw101_7)).trans hw101_7), ((HB.out.cell (World.block_lt_of_cell? w _ hw101_8)).trans hw101_8), ((HB.out.cell (World.block_lt_of_cell? w _ hw102_0)).trans hw102_0), ((HB.out.cell (World.block_lt_of_cell? w _ hw102_1)).trans hw102_1), ((HB.out.cell (World.block_lt_of_cell? w _ hw102_2)).trans hw102_2), ((HB.out.cell (World.block_lt_of_cell? w _ hw102_3)).trans hw102_3), ((HB.out.cell (World.block_lt_of_cell? w _ hw102_4)).trans hw102_4), ((HB.out.cell (World.block_lt_of_cell? w _ hw102_5)).trans hw102_5), ((HB.out.cell (World.block_lt_of_cell? w _ hw102_6)).trans hw102_6), ((HB.out.cell (World.block_lt_of_cell? w _ hw102_7)).trans hw102_7), ((HB.out.cell (World.block_lt_of_cell? w _ hw102_8)).trans hw102_8)⟩ (fun hHeld => ?_); refine with_tabW laws_eqMicroS.tab6 laws_eqMicroS.bits6 (fun HT_ HW_ => ?_)
        generalize wr.drew = w11 at HB hx101_0 hx101_1 hx101_2 hx101_3 hx101_4 hx101_5 hx101_6 hx101_7 hx101_8 hx102_0 hx102_1 hx102_2 hx102_3 hx102_4 hx102_5 hx102_6 hx102_7 hx102_8 hHeld ⊢; refine pure_ (i := 0) (N := some 17) (v := ?_) (a' := ?_) #[true, false, false, false, false, false, false, false, false, false] rfl rfl (any_of HT_.out (by kernel_rfl)) (fun _ _ _ h => h) (Or.inl ⟨by rfl, ?_⟩) ?_ ?_; rotate_left
        · intro w'; go_simp; with_reducible rfl
        rotate_left
        · simp only [Act.put, List.setIfInBounds_toArray, List.set_cons_zero, List.set_cons_succ, i64_w, i32_w]; rfl
        refine pure_ (i := 1) (N := some 18) (v := ?_) (a' := ?_) #[true, true, false, false, false, false, false, false, false, false] rfl rfl (any_of HT_.out (by kernel_rfl)) (fun _ _ _ h => h) (Or.inl ⟨by rfl, ?_⟩) ?_ ?_; rotate_left
        · intro w'; go_simp; with_reducible rfl
        rotate_left
        · simp only [Act.put, List.setIfInBounds_toArray, List.set_cons_zero, List.set_cons_succ, i64_w, i32_w]; rfl
        refine pure_ (i := 2) (N := some 19) (v := ?_) (a' := ?_) #[true, true, true, false, false, false, false, false, false, false] rfl rfl (any_of HT_.out (by kernel_rfl)) (fun _ _ _ h => h) (Or.inl ⟨by rfl, ?_⟩) ?_ ?_; rotate_left
        · intro w'; go_simp; with_reducible rfl
        rotate_left
        · simp only [Act.put, List.setIfInBounds_toArray, List.set_cons_zero, List.set_cons_succ, i64_w, i32_w]; rfl
        refine pure_ (i := 4) (N := some 21) (v := ?_) (a' := ?_) #[true, true, true, false, true, false, false, false, false, false] rfl rfl (any_of HT_.out (by kernel_rfl)) (fun _ _ _ h => h) (Or.inl ⟨by rfl, ?_⟩) ?_ ?_; rotate_left
        · intro w'; go_simp; with_reducible rfl
        rotate_left
        · simp only [Act.put, List.setIfInBounds_toArray, List.set_cons_zero, List.set_cons_succ, i64_w, i32_w]; rfl
        refine pure_ (i := 5) (N := some 22) (v := ?_) (a' := ?_) #[true, true, true, false, true, true, false, false, false, false] rfl rfl (any_of HT_.out (by kernel_rfl)) (fun _ _ _ h => h) (Or.inl ⟨by rfl, ?_⟩) ?_ ?_; rotate_left
        · intro w'; go_simp; with_reducible rfl
        rotate_left
        · simp only [Act.put, List.setIfInBounds_toArray, List.set_cons_zero, List.set_cons_succ, i64_w, i32_w]; rfl
        refine pure_ (i := 6) (N := some 23) (v := ?_) (a' := ?_) #[true, true, true, false, true, true, true, false, false, false] rfl rfl (any_of HT_.out (by kernel_rfl)) (fun _ _ _ h => h) (Or.inl ⟨by rfl, ?_⟩) ?_ ?_; rotate_left
        · intro w'; go_simp; with_reducible rfl
        rotate_left
        · simp only [Act.put, List.setIfInBounds_toArray, List.set_cons_zero, List.set_cons_succ, i64_w, i32_w]; rfl
        refine take_ (i := 3) (N := some 20) (v := ?_) (a' := ?_) #[true, true, true, true, true, true, true, false, false, false] rfl rfl (take_ofW HT_.out HW_.out (by kernel_rfl)) (fun _ _ _ h => h) (Or.inl ⟨by rfl, ?_⟩) hHeld ?_ ?_; rotate_left
        · rintro w' ⟨s0, s1, s2, s3, s4, s5, s6, s7, s8, s9, s10, s11, s12, s13, s14, s15, s16, s17⟩; go_simp; with_reducible rfl
        rotate_left
        · simp only [Act.put, List.setIfInBounds_toArray, List.set_cons_zero, List.set_cons_succ, i64_w, i32_w]; rfl
        refine take_ (i := 7) (N := some 24) (v := ?_) (a' := ?_) #[true, true, true, true, true, true, true, true, false, false] rfl rfl (take_ofW HT_.out HW_.out (by kernel_rfl)) (fun _ _ _ h => h) (Or.inl ⟨by rfl, ?_⟩) hHeld ?_ ?_; rotate_left
        · rintro w' ⟨s0, s1, s2, s3, s4, s5, s6, s7, s8, s9, s10, s11, s12, s13, s14, s15, s16, s17⟩; go_simp; with_reducible rfl
        rotate_left
        · simp only [Act.put, List.setIfInBounds_toArray, List.set_cons_zero, List.set_cons_succ, i64_w, i32_w]; rfl
        refine one_ (i := 8) (N := some 25) #[true, true, true, true, true, true, true, true, true, false] rfl rfl (one_of HT_.out (by kernel_rfl)) (by decide) (fun K hK => ?_); refine goesS Try.func111 #[.agg #[.int .i64 ((rd_T88 l0 x5_1).f0.f0), .int .i64 ((rd_T88 l0 x5_1).f0.f1), .int .i64 ((rd_T88 l0 x5_1).f0.f2), .int .i64 ((rd_T88 l0 x5_1).f0.f3.f0), .int .i64 ((rd_T88 l0 x5_1).f0.f3.f1), .int .i64 ((rd_T88 l0 x5_1).f0.f3.f2), .int .i64 ((rd_T88 l0 x5_1).f0.f4), .int .i64 ((rd_T88 l0 x5_1).f1), .bool ((rd_T88 l0 x5_1).f2)], .agg #[.int .i64 ((rd_T88 l1 x5_1).f0.f0), .int .i64 ((rd_T88 l1 x5_1).f0.f1), .int .i64 ((rd_T88 l1 x5_1).f0.f2), .int .i64 ((rd_T88 l1 x5_1).f0.f3.f0), .int .i64 ((rd_T88 l1 x5_1).f0.f3.f1), .int .i64 ((rd_T88 l1 x5_1).f0.f3.f2), .int .i64 ((rd_T88 l1 x5_1).f0.f4), .int .i64 ((rd_T88 l1 x5_1).f1), .bool ((rd_T88 l1 x5_1).f2)]] ?_; (with_reducible refine (laws_eqMicro.calls ((rd_T88 l0 x5_1).f0.f0) ((rd_T88 l0 x5_1).f0.f1) ((rd_T88 l0 x5_1).f0.f2) ((rd_T88 l0 x5_1).f0.f3.f0) ((rd_T88 l0 x5_1).f0.f3.f1) ((rd_T88 l0 x5_1).f0.f3.f2) ((rd_T88 l0 x5_1).f0.f4) ((rd_T88 l0 x5_1).f1) ((rd_T88 l0 x5_1).f2) ((rd_T88 l1 x5_1).f0.f0) ((rd_T88 l1 x5_1).f0.f1) ((rd_T88 l1 x5_1).f0.f2) ((rd_T88 l1 x5_1).f0.f3.f0) ((rd_T88 l1 x5_1).f0.f3.f1) ((rd_T88 l1 x5_1).f0.f3.f2) ((rd_T88 l1 x5_1).f0.f4) ((rd_T88 l1 x5_1).f1) ((rd_T88 l1 x5_1).f2) false _ A7.out).mono ?_); rintro e w12 ⟨rfl, hb⟩; refine ⟨_, rfl, ?_⟩; have n0_ := Aside0.mk (below_step oL hb); clear HB; have HB := n0_; clear n0_; (try clear hb); (try clear hb2); (try clear hk); (try clear hi); refine hK.out _ _ ⟨((HB.out.cell (World.block_lt_of_cell? w _ hw101_0)).trans hw101_0), ((HB.out.cell (World.block_lt_of_cell? w _ hw101_1)).trans hw101_1), ((HB.out.cell (World.block_lt_of_cell? w _ hw101_2)).trans hw101_2), ((HB.out.cell (World.block_lt_of_cell? w _ hw101_3)).trans hw101_3), ((HB.out.cell (World.block_lt_of_cell? w _ hw101_4)).trans hw101_4), ((HB.out.cell (World.block_lt_of_cell? w _ hw101_5)).trans hw101_5), ((HB.out.cell (World.block_lt_of_cell? w _ hw101_6)).trans hw101_6), ((HB.out.cell (World.block_lt_of_cell? w _ hw101_7)).trans hw101_7), ((HB.out.cell (World.block_lt_of_cell? w _ hw101_8)).trans hw101_8), ((HB.out.cell (World.block_lt_of_cell? w _ hw102_0)).trans hw102_0), ((HB.out.cell (World.block_lt_of_cell? w _ hw102_1)).trans hw102_1), ((HB.out.cell (World.block_lt_of_cell? w _ hw102_2)).trans hw102_2), ((HB.out.cell (World.block_lt_of_cell? w _ hw102_3)).trans hw102_3), ((HB.out.cell (World.block_lt_of_cell? w _ hw102_4)).trans hw102_4), ((HB.out.cell (World.block_lt_of_cell? w _ hw102_5)).trans hw102_5), ((HB.out.cell (World.block_lt_of_cell? w _ hw102_6)).trans hw102_6), ((HB.out.cell (World.block_lt_of_cell? w _ hw102_7)).trans hw102_7), ((HB.out.cell (World.block_lt_of_cell? w _ hw102_8)).trans hw102_8)⟩ (fun hHeld => ?_); clear hK K; refine norm_ (a' := ?_) ?_ ?_; rotate_left
        · show Act.put _ (some 25) _ = _; simp only [Act.put, List.setIfInBounds_toArray, List.set_cons_zero, List.set_cons_succ, i64_w, i32_w]; rfl
        refine pure_ (i := 9) (N := some 26) (v := ?_) (a' := ?_) #[true, true, true, true, true, true, true, true, true, true] rfl rfl (any_of HT_.out (by kernel_rfl)) (fun _ _ _ h => h) (Or.inl ⟨by rfl, ?_⟩) ?_ ?_; rotate_left
        · intro w'; go_simp; with_reducible rfl
        rotate_left
        · simp only [Act.put, List.setIfInBounds_toArray, List.set_cons_zero, List.set_cons_succ, i64_w, i32_w]; rfl
        refine done_ (done_of HT_.out (by kernel_rfl)) ?_; try go_wp2
        go_ret; exact ⟨oE, oL⟩
      · rw [if_neg c6] at H; exact absurd H (by simp)
     · rw [if_neg c5] at H; exact absurd H (by simp)
    · rw [if_neg c4] at H; have c4b0 : decide (x5_1 < (l0.length : Int)) = false := decide_eq_false c4; clear c4; obtain rfl := Option.some.inj H; go_wp2; go_ret; exact ⟨oE, oL⟩
 ·
  rw [if_neg c3] at H; obtain ⟨c3b0, c3b1⟩ := eF c3; have c3b2 : (l0.length == l1.length) = false := by first | simpa using c3 | (simp at c3 ⊢; omega)
  obtain rfl := Option.some.inj H; go_enter Try.func64, Try.ntmps64; go_wp2; go_ret; exact ⟨oE, oL⟩

/-! ### laws_eqUnit: function 23 -/
def laws_eqUnit.f (k : Nat) (a0_0 : Int) (a0_1 : Int) (l0_2 : List (S88)) (a1_0 : Int) (a1_1 : Int) (l1_2 : List (S88)) : Option (Bool) := if a0_0 = a1_0 then (if a0_1 = a1_1 then ((laws_eqMicroS.f k l0_2 l1_2).bind fun t103 => (if t103 = true then (some true) else (some false))) else (some false)) else (some false)
theorem laws_eqUnit.mono : ∀ a0 a1 a2 a3 a4 a5 k, LeO (laws_eqUnit.f k a0 a1 a2 a3 a4 a5) (laws_eqUnit.f (k + 1) a0 a1 a2 a3 a4 a5) := by
 intro a0 a1 a2 a3 a4 a5 k
 unfold laws_eqUnit.f
 repeat' first
   | (with_reducible exact laws_eqMicroS.mono _ _ _)
   | (with_reducible exact LeO.refl _)
   | (with_reducible exact LeO.none _)
   | (with_reducible refine LeO.ite ?_ ?_)
   | (with_reducible refine LeO.bind ?_ (fun _ => ?_))
   | exact laws_eqMicroS.mono _ _ _
   | exact LeO.none _
   | refine LeO.ite ?_ ?_
   | refine LeO.bind ?_ (fun _ => ?_)
set_option maxHeartbeats 8000000 in
set_option maxRecDepth 100000 in
theorem laws_eqUnit.calls (k : Nat) (a0_0 : Int) (a0_1 : Int) (A0_2 : Option Addr) (c0_2 : Nat) (l0_2 : List (S88)) (a1_0 : Int) (a1_1 : Int) (A1_2 : Option Addr) (c1_2 : Nat) (l1_2 : List (S88)) (r : Bool) (w : World) (hr0_2 : Kd.C k88 w A0_2 l0_2.length l0_2) (hc0_2 : l0_2.length ≤ c0_2) (hr1_2 : Kd.C k88 w A1_2 l1_2.length l1_2) (hc1_2 : l1_2.length ≤ c1_2) (h : laws_eqUnit.f k a0_0 a0_1 l0_2 a1_0 a1_1 l1_2 = some r) :
  Calls Try.prog 23 #[.agg #[.int .i64 a0_0, .int .i64 a0_1, .slice A0_2 l0_2.length c0_2], .agg #[.int .i64 a1_0, .int .i64 a1_1, .slice A1_2 l1_2.length c1_2]] w fun e w' => e = .returned (.bool r) ∧ Below w.heap.size w w' := by
 have hu41 := Try.underlying41; have HR0_2 := Aside0.mk hr0_2; have HC0_2 := Aside0.mk hc0_2; clear hr0_2 hc0_2; have HR1_2 := Aside0.mk hr1_2; have HC1_2 := Aside0.mk hc1_2; clear hr1_2 hc1_2; have HB := Aside0.mk (Below.refl w.heap.size w); have H : (if a0_0 = a1_0 then (if a0_1 = a1_1 then ((laws_eqMicroS.f k l0_2 l1_2).bind fun t103 => (if t103 = true then (some true) else (some false))) else (some false)) else (some false)) = some r := h; clear h; by_cases c3 : a0_0 = a1_0
 ·
  rw [if_pos c3] at H; obtain ⟨c3b0, c3b1⟩ := eT c3; clear c3; by_cases c4 : a0_1 = a1_1
  ·
   rw [if_pos c4] at H; obtain ⟨c4b0, c4b1⟩ := eT c4; clear c4; obtain ⟨t103, A50, H⟩ := bE H; have A5 := Aside0.mk A50; clear A50; by_cases c6 : t103 = true
   ·
    subst c6; replace H := iT H; obtain rfl := Option.some.inj H; go_enter Try.func23, Try.ntmps23; go_wp2_with (first | ((with_reducible refine gate_dst (N := 2) rfl ?_); refine boxE (w := w) oL (cs := #[.int .i64 a0_0, .int .i64 a0_1, .slice A0_2 l0_2.length c0_2]) (t := 41) ?_; clear HB; intro gb101 w7 HB BK101 GW101; have GE101 := GW101) | ((with_reducible refine gate_dst (N := 3) rfl ?_); refine box_event ?hg (N := 3) ?hd (cs := #[.int .i64 a1_0, .int .i64 a1_1, .slice A1_2 l1_2.length c1_2]) (t := 41) ?hr ?_; (case hd => rfl); (case hg => rfl); (case hr => first | (go_simp; done) | (go_simp; rfl)); intro gb102 hg w8 hbox hb; have n0_ := Aside0.mk (blk_below (oB BK101.out) hb); have n1_ := Aside0.mk (below_step oL hb); have n2_ := Aside0.mk (hbox); have n3_ := Aside0.mk ((oS hg oL : w.heap.size ≤ gb102)); have n4_ := Aside0.mk ((oS hg oL : w.heap.size ≤ gb102)); have n5_ := Aside0.mk ((oN hg (oB BK101.out) : gb101 ≠ gb102)); have n6_ := Aside0.mk ((oM hg (oB BK101.out) : gb102 ≠ gb101)); clear BK101; clear HB; have BK101 := n0_; have HB := n1_; have BK102 := n2_; have GW102 := n3_; have GE102 := n4_; have NB101_102 := n5_; have NB102_101 := n6_; clear n0_ n1_ n2_ n3_ n4_ n5_ n6_; clear hb hbox hg; have hnb9 := NB101_102.out; have hnc9 := NB102_101.out; obtain ⟨hcz10_0, hcz10_1, hcz10_2⟩ := cz3 BK101.out; obtain ⟨hfz10_0, hfz10_1, hfz10_2⟩ := fz3 BK101.out; obtain ⟨hcz11_0, hcz11_1, hcz11_2⟩ := cz3 BK102.out; obtain ⟨hfz11_0, hfz11_1, hfz11_2⟩ := fz3 BK102.out) | ((with_reducible refine gate_callee (f := 64) rfl ?_); refine goesL_ (some 19) rfl rfl Try.func64 (by kernel_rfl) rfl #[.slice A0_2 l0_2.length c0_2, .slice A1_2 l1_2.length c1_2] rfl (by (try simp only [List.map_toArray, List.map_cons, List.map_nil]); first | done | rfl | (simp only [List.length_drop, List.length_take]; rfl)) ?_; (with_reducible refine (laws_eqMicroS.calls k _ _ l0_2 _ _ l1_2 true _ ?side1 ?side2 ?side3 ?side4 A5.out).mono ?_); (case side1 => exact oC HR0_2.out); (case side2 => exact HC0_2.out); (case side3 => exact oC HR1_2.out); (case side4 => exact HC1_2.out); rintro e w12 ⟨rfl, hb⟩; refine ⟨_, rfl, ?_⟩; have n0_ := Aside0.mk (blk_below (oB BK101.out) hb); have n1_ := Aside0.mk (blk_below (oB BK102.out) hb); have n2_ := Aside0.mk (below_step oL hb); clear BK101; clear BK102; clear HB; have BK101 := n0_; have BK102 := n1_; have HB := n2_; clear n0_ n1_ n2_; (try clear hb); (try clear hb2); (try clear hk); (try clear hi)))
    go_ret; exact ⟨oE, oL⟩
   ·
    replace c6 := Bool.eq_false_iff.mpr c6; subst c6; replace H := iF H; obtain rfl := Option.some.inj H; go_enter Try.func23, Try.ntmps23; go_wp2_with (first | ((with_reducible refine gate_dst (N := 2) rfl ?_); refine boxE (w := w) oL (cs := #[.int .i64 a0_0, .int .i64 a0_1, .slice A0_2 l0_2.length c0_2]) (t := 41) ?_; clear HB; intro gb101 w13 HB BK101 GW101; have GE101 := GW101) | ((with_reducible refine gate_dst (N := 3) rfl ?_); refine box_event ?hg (N := 3) ?hd (cs := #[.int .i64 a1_0, .int .i64 a1_1, .slice A1_2 l1_2.length c1_2]) (t := 41) ?hr ?_; (case hd => rfl); (case hg => rfl); (case hr => first | (go_simp; done) | (go_simp; rfl)); intro gb102 hg w14 hbox hb; have n0_ := Aside0.mk (blk_below (oB BK101.out) hb); have n1_ := Aside0.mk (below_step oL hb); have n2_ := Aside0.mk (hbox); have n3_ := Aside0.mk ((oS hg oL : w.heap.size ≤ gb102)); have n4_ := Aside0.mk ((oS hg oL : w.heap.size ≤ gb102)); have n5_ := Aside0.mk ((oN hg (oB BK101.out) : gb101 ≠ gb102)); have n6_ := Aside0.mk ((oM hg (oB BK101.out) : gb102 ≠ gb101)); clear BK101; clear HB; have BK101 := n0_; have HB := n1_; have BK102 := n2_; have GW102 := n3_; have GE102 := n4_; have NB101_102 := n5_; have NB102_101 := n6_; clear n0_ n1_ n2_ n3_ n4_ n5_ n6_; clear hb hbox hg; have hnb15 := NB101_102.out; have hnc15 := NB102_101.out; obtain ⟨hcz16_0, hcz16_1, hcz16_2⟩ := cz3 BK101.out; obtain ⟨hfz16_0, hfz16_1, hfz16_2⟩ := fz3 BK101.out; obtain ⟨hcz17_0, hcz17_1, hcz17_2⟩ := cz3 BK102.out; obtain ⟨hfz17_0, hfz17_1, hfz17_2⟩ := fz3 BK102.out) | ((with_reducible refine gate_callee (f := 64) rfl ?_); refine goesL_ (some 19) rfl rfl Try.func64 (by kernel_rfl) rfl #[.slice A0_2 l0_2.length c0_2, .slice A1_2 l1_2.length c1_2] rfl (by (try simp only [List.map_toArray, List.map_cons, List.map_nil]); first | done | rfl | (simp only [List.length_drop, List.length_take]; rfl)) ?_; (with_reducible refine (laws_eqMicroS.calls k _ _ l0_2 _ _ l1_2 false _ ?side1 ?side2 ?side3 ?side4 A5.out).mono ?_); (case side1 => exact oC HR0_2.out); (case side2 => exact HC0_2.out); (case side3 => exact oC HR1_2.out); (case side4 => exact HC1_2.out); rintro e w18 ⟨rfl, hb⟩; refine ⟨_, rfl, ?_⟩; have n0_ := Aside0.mk (blk_below (oB BK101.out) hb); have n1_ := Aside0.mk (blk_below (oB BK102.out) hb); have n2_ := Aside0.mk (below_step oL hb); clear BK101; clear BK102; clear HB; have BK101 := n0_; have BK102 := n1_; have HB := n2_; clear n0_ n1_ n2_; (try clear hb); (try clear hb2); (try clear hk); (try clear hi)))
    go_ret; exact ⟨oE, oL⟩
  ·
   rw [if_neg c4] at H; obtain ⟨c4b0, c4b1⟩ := eF c4; obtain rfl := Option.some.inj H; go_enter Try.func23, Try.ntmps23; go_wp2_with (first | ((with_reducible refine gate_dst (N := 2) rfl ?_); refine boxE (w := w) oL (cs := #[.int .i64 a0_0, .int .i64 a0_1, .slice A0_2 l0_2.length c0_2]) (t := 41) ?_; clear HB; intro gb101 w19 HB BK101 GW101; have GE101 := GW101) | ((with_reducible refine gate_dst (N := 3) rfl ?_); refine box_event ?hg (N := 3) ?hd (cs := #[.int .i64 a1_0, .int .i64 a1_1, .slice A1_2 l1_2.length c1_2]) (t := 41) ?hr ?_; (case hd => rfl); (case hg => rfl); (case hr => first | (go_simp; done) | (go_simp; rfl)); intro gb102 hg w20 hbox hb; have n0_ := Aside0.mk (blk_below (oB BK101.out) hb); have n1_ := Aside0.mk (below_step oL hb); have n2_ := Aside0.mk (hbox); have n3_ := Aside0.mk ((oS hg oL : w.heap.size ≤ gb102)); have n4_ := Aside0.mk ((oS hg oL : w.heap.size ≤ gb102)); have n5_ := Aside0.mk ((oN hg (oB BK101.out) : gb101 ≠ gb102)); have n6_ := Aside0.mk ((oM hg (oB BK101.out) : gb102 ≠ gb101)); clear BK101; clear HB; have BK101 := n0_; have HB := n1_; have BK102 := n2_; have GW102 := n3_; have GE102 := n4_; have NB101_102 := n5_; have NB102_101 := n6_; clear n0_ n1_ n2_ n3_ n4_ n5_ n6_; clear hb hbox hg; have hnb21 := NB101_102.out; have hnc21 := NB102_101.out; obtain ⟨hcz22_0, hcz22_1, hcz22_2⟩ := cz3 BK101.out; obtain ⟨hfz22_0, hfz22_1, hfz22_2⟩ := fz3 BK101.out; obtain ⟨hcz23_0, hcz23_1, hcz23_2⟩ := cz3 BK102.out; obtain ⟨hfz23_0, hfz23_1, hfz23_2⟩ := fz3 BK102.out))
   go_ret; exact ⟨oE, oL⟩
 ·
  rw [if_neg c3] at H; obtain ⟨c3b0, c3b1⟩ := eF c3; obtain rfl := Option.some.inj H; go_enter Try.func23, Try.ntmps23; go_wp2_with (first | ((with_reducible refine gate_dst (N := 2) rfl ?_); refine boxE (w := w) oL (cs := #[.int .i64 a0_0, .int .i64 a0_1, .slice A0_2 l0_2.length c0_2]) (t := 41) ?_; clear HB; intro gb101 w24 HB BK101 GW101; have GE101 := GW101) | ((with_reducible refine gate_dst (N := 3) rfl ?_); refine box_event ?hg (N := 3) ?hd (cs := #[.int .i64 a1_0, .int .i64 a1_1, .slice A1_2 l1_2.length c1_2]) (t := 41) ?hr ?_; (case hd => rfl); (case hg => rfl); (case hr => first | (go_simp; done) | (go_simp; rfl)); intro gb102 hg w25 hbox hb; have n0_ := Aside0.mk (blk_below (oB BK101.out) hb); have n1_ := Aside0.mk (below_step oL hb); have n2_ := Aside0.mk (hbox); have n3_ := Aside0.mk ((oS hg oL : w.heap.size ≤ gb102)); have n4_ := Aside0.mk ((oS hg oL : w.heap.size ≤ gb102)); have n5_ := Aside0.mk ((oN hg (oB BK101.out) : gb101 ≠ gb102)); have n6_ := Aside0.mk ((oM hg (oB BK101.out) : gb102 ≠ gb101)); clear BK101; clear HB; have BK101 := n0_; have HB := n1_; have BK102 := n2_; have GW102 := n3_; have GE102 := n4_; have NB101_102 := n5_; have NB102_101 := n6_; clear n0_ n1_ n2_ n3_ n4_ n5_ n6_; clear hb hbox hg; have hnb26 := NB101_102.out; have hnc26 := NB102_101.out; obtain ⟨hcz27_0, hcz27_1, hcz27_2⟩ := cz3 BK101.out; obtain ⟨hfz27_0, hfz27_1, hfz27_2⟩ := fz3 BK101.out; obtain ⟨hcz28_0, hcz28_1, hcz28_2⟩ := cz3 BK102.out; obtain ⟨hfz28_0, hfz28_1, hfz28_2⟩ := fz3 BK102.out))
  go_ret; exact ⟨oE, oL⟩

/-! ### spec_l14Straight: function 55 -/
def spec_l14Straight.j0 : Nat → Int → Bool → Int → Int → Int → Int → Int → Int → Int → Option (Bool)
 | 0, _, _, _, _, _, _, _, _, _ => none
 | k + 1, x4, x5, x102000, x102001, x102002, x102003, x102004, x102005, x102006 => if x5 = true then (some false) else (if x4 = 15 then (if x102006 = 2 then (some true) else (if x102006 = 5 then (some true) else (some (x102006 == 6)))) else (if x4 = 19 then (some (x102006 != 0)) else (some true)))
def spec_l14Straight.f (k : Nat) (a0_0 : Int) (a0_1 : Int) (a0_2 : Int) (a0_3 : Int) (a0_4 : Int) (a0_5 : Int) (a0_6 : Int) : Option (Bool) := if a0_0 = 13 then (spec_l14Straight.j0 k a0_0 (a0_0 == 13) a0_0 a0_1 a0_2 a0_3 a0_4 a0_5 a0_6) else (spec_l14Straight.j0 k a0_0 (a0_0 == 14) a0_0 a0_1 a0_2 a0_3 a0_4 a0_5 a0_6)
theorem spec_l14Straight.mono_l : ∀ k, (∀ y0 y1 y2 y3 y4 y5 y6 y7 y8, LeO (spec_l14Straight.j0 k y0 y1 y2 y3 y4 y5 y6 y7 y8) (spec_l14Straight.j0 (k + 1) y0 y1 y2 y3 y4 y5 y6 y7 y8))
 | 0 => fun _ _ _ _ _ _ _ _ _ r h => by simp [spec_l14Straight.j0] at h
 | k + 1 => by
  have ih0 := spec_l14Straight.mono_l k
  ·
   intro y0 y1 y2 y3 y4 y5 y6 y7 y8
   unfold spec_l14Straight.j0
   repeat' first
   | (with_reducible exact ih0 _ _ _ _ _ _ _ _ _)
   | (with_reducible exact LeO.refl _)
   | (with_reducible exact LeO.none _)
   | (with_reducible refine LeO.ite ?_ ?_)
   | (with_reducible refine LeO.bind ?_ (fun _ => ?_))
   | exact ih0 _ _ _ _ _ _ _ _ _
   | exact LeO.none _
   | refine LeO.ite ?_ ?_
   | refine LeO.bind ?_ (fun _ => ?_)
theorem spec_l14Straight.mono : ∀ a0 a1 a2 a3 a4 a5 a6 k, LeO (spec_l14Straight.f k a0 a1 a2 a3 a4 a5 a6) (spec_l14Straight.f (k + 1) a0 a1 a2 a3 a4 a5 a6) := by
 intro a0 a1 a2 a3 a4 a5 a6 k
 have ih0 := spec_l14Straight.mono_l k
 unfold spec_l14Straight.f
 repeat' first
   | (with_reducible exact ih0 _ _ _ _ _ _ _ _ _)
   | (with_reducible exact LeO.refl _)
   | (with_reducible exact LeO.none _)
   | (with_reducible refine LeO.ite ?_ ?_)
   | (with_reducible refine LeO.bind ?_ (fun _ => ?_))
   | exact ih0 _ _ _ _ _ _ _ _ _
   | exact LeO.none _
   | refine LeO.ite ?_ ?_
   | refine LeO.bind ?_ (fun _ => ?_)
set_option maxHeartbeats 8000000 in
set_option maxRecDepth 100000 in
theorem spec_l14Straight.calls (k : Nat) (a0_0 : Int) (a0_1 : Int) (a0_2 : Int) (a0_3 : Int) (a0_4 : Int) (a0_5 : Int) (a0_6 : Int) (r : Bool) (w : World) (h : spec_l14Straight.f k a0_0 a0_1 a0_2 a0_3 a0_4 a0_5 a0_6 = some r) :
  Calls Try.prog 55 #[.agg #[.int .i64 a0_0, .int .i64 a0_1, .int .i64 a0_2, .int .i64 a0_3, .int .i64 a0_4, .int .i64 a0_5, .int .i64 a0_6]] w fun e w' => e = .returned (.bool r) ∧ Below w.heap.size w w' := by
 have hu77 := Try.underlying77; have HB := Aside0.mk (Below.refl w.heap.size w); have H : (if a0_0 = 13 then (spec_l14Straight.j0 k a0_0 (a0_0 == 13) a0_0 a0_1 a0_2 a0_3 a0_4 a0_5 a0_6) else (spec_l14Straight.j0 k a0_0 (a0_0 == 14) a0_0 a0_1 a0_2 a0_3 a0_4 a0_5 a0_6)) = some r := h; clear h; have HC2 := Aside0.mk H; clear H; go_enter Try.func55, Try.ntmps55; go_upto_if 5 with (first | ((with_reducible refine gate_dst (N := 1) rfl ?_); refine boxE (w := w) oL (cs := #[.int .i64 a0_0, .int .i64 a0_1, .int .i64 a0_2, .int .i64 a0_3, .int .i64 a0_4, .int .i64 a0_5, .int .i64 a0_6]) (t := 77) ?_; clear HB; intro gb101 w3 HB BK101 GW101; have GE101 := GW101; obtain ⟨hcz4_0, hcz4_1, hcz4_2, hcz4_3, hcz4_4, hcz4_5, hcz4_6⟩ := cz7 BK101.out; obtain ⟨hfz4_0, hfz4_1, hfz4_2, hfz4_3, hfz4_4, hfz4_5, hfz4_6⟩ := fz7 BK101.out))
 (try simp only [Act.put, List.setIfInBounds_toArray, List.set_cons_zero, List.set_cons_succ]); go_cut [5] (fun v5 wc => ∃ (kq : Nat) (x5_1 : Bool), v5 = .bool x5_1 ∧ Aside0 (spec_l14Straight.j0 kq a0_0 x5_1 a0_0 a0_1 a0_2 a0_3 a0_4 a0_5 a0_6 = some r) ∧ Aside0 (kq ≤ k) ∧ Aside0 (wc.heap[gb101]? = some (.cells #[.int .i64 a0_0, .int .i64 a0_1, .int .i64 a0_2, .int .i64 a0_3, .int .i64 a0_4, .int .i64 a0_5, .int .i64 a0_6] 77 (0, 0))) ∧ Aside0 (Below w.heap.size w wc))
 case first =>
  have H := HC2.out; clear HC2; by_cases c5 : a0_0 = 13
  · rw [if_pos c5] at H; obtain ⟨c5b0, c5b1⟩ := eT c5; clear c5; (first | rw [c5b0] | (simp only [i64_w, i32_w]; rw [c5b0]) | skip); have H' := Aside0.mk H; clear H; go_wp2; go_meet; case rel => exact ⟨_, ((a0_0 == 13)), (by first | rfl | (simp; done) | (simp [*]; done)), H', ⟨by first | omega | exact Nat.le_refl _⟩, ⟨by (with_reducible repeat (first | refine blk_drewN ?_ _ | refine blk_drew ?_ | refine blk_alloc ?_ _)); exact BK101.out⟩, ⟨by repeat (first | (with_reducible first | exact HB.out | apply below_alloc | apply pw_below_drewN | apply below_drew1 | refine below_set ?_ GE101.out) | exact HB.out)⟩⟩
  · rw [if_neg c5] at H; obtain ⟨c5b0, c5b1⟩ := eF c5; (first | rw [c5b0] | (simp only [i64_w, i32_w]; rw [c5b0]) | skip); have H' := Aside0.mk H; clear H; go_wp2; go_meet; case rel => exact ⟨_, ((a0_0 == 14)), (by first | rfl | (simp; done) | (simp [*]; done)), H', ⟨by first | omega | exact Nat.le_refl _⟩, ⟨by (with_reducible repeat (first | refine blk_drewN ?_ _ | refine blk_drew ?_ | refine blk_alloc ?_ _)); exact BK101.out⟩, ⟨by repeat (first | (with_reducible first | exact HB.out | apply below_alloc | apply pw_below_drewN | apply below_drew1 | refine below_set ?_ GE101.out) | exact HB.out)⟩⟩
 case rest =>
  clear HC2; (try clear p2); (try clear c5); (try clear c5b0); (try clear c5b1); (try clear hcz4_0 hcz4_1 hcz4_2 hcz4_3 hcz4_4 hcz4_5 hcz4_6); (try clear hfz4_0 hfz4_1 hfz4_2 hfz4_3 hfz4_4 hfz4_5 hfz4_6); obtain ⟨kq, x5_1, rfl, HA, HJ1, BK101, HB⟩ := hcut; cases kq with
  | zero => exact absurd HA.out (by simp [spec_l14Straight.j0])
  | succ kj1 =>
   have H := HA.out; clear HA; simp only [spec_l14Straight.j0] at H; by_cases c6 : x5_1 = true
   · subst c6; replace H := iT H; obtain rfl := Option.some.inj H; go_wp2; go_ret; exact ⟨oE, oL⟩
   ·
    replace c6 := Bool.eq_false_iff.mpr c6; subst c6; replace H := iF H; by_cases c7 : a0_0 = 15
    ·
     rw [if_pos c7] at H; obtain ⟨c7b0, c7b1⟩ := eT c7; clear c7; by_cases c8 : a0_6 = 2
     · rw [if_pos c8] at H; obtain ⟨c8b0, c8b1⟩ := eT c8; clear c8; obtain rfl := Option.some.inj H; obtain ⟨hcz9_0, hcz9_1, hcz9_2, hcz9_3, hcz9_4, hcz9_5, hcz9_6⟩ := cz7 BK101.out; obtain ⟨hfz9_0, hfz9_1, hfz9_2, hfz9_3, hfz9_4, hfz9_5, hfz9_6⟩ := fz7 BK101.out; go_wp2; go_ret; exact ⟨oE, oL⟩
     ·
      rw [if_neg c8] at H; obtain ⟨c8b0, c8b1⟩ := eF c8; by_cases c10 : a0_6 = 5
      · rw [if_pos c10] at H; obtain ⟨c10b0, c10b1⟩ := eT c10; clear c10; obtain rfl := Option.some.inj H; obtain ⟨hcz11_0, hcz11_1, hcz11_2, hcz11_3, hcz11_4, hcz11_5, hcz11_6⟩ := cz7 BK101.out; obtain ⟨hfz11_0, hfz11_1, hfz11_2, hfz11_3, hfz11_4, hfz11_5, hfz11_6⟩ := fz7 BK101.out; go_wp2; go_ret; exact ⟨oE, oL⟩
      · rw [if_neg c10] at H; obtain ⟨c10b0, c10b1⟩ := eF c10; obtain rfl := Option.some.inj H; obtain ⟨hcz12_0, hcz12_1, hcz12_2, hcz12_3, hcz12_4, hcz12_5, hcz12_6⟩ := cz7 BK101.out; obtain ⟨hfz12_0, hfz12_1, hfz12_2, hfz12_3, hfz12_4, hfz12_5, hfz12_6⟩ := fz7 BK101.out; go_wp2; go_ret; exact ⟨oE, oL⟩
    ·
     rw [if_neg c7] at H; obtain ⟨c7b0, c7b1⟩ := eF c7; by_cases c13 : a0_0 = 19
     · rw [if_pos c13] at H; obtain ⟨c13b0, c13b1⟩ := eT c13; clear c13; obtain rfl := Option.some.inj H; obtain ⟨hcz14_0, hcz14_1, hcz14_2, hcz14_3, hcz14_4, hcz14_5, hcz14_6⟩ := cz7 BK101.out; obtain ⟨hfz14_0, hfz14_1, hfz14_2, hfz14_3, hfz14_4, hfz14_5, hfz14_6⟩ := fz7 BK101.out; go_wp2; go_ret; exact ⟨oE, oL⟩
     · rw [if_neg c13] at H; obtain ⟨c13b0, c13b1⟩ := eF c13; obtain rfl := Option.some.inj H; go_wp2; go_ret; exact ⟨oE, oL⟩

end Go.Proofs.Ytjnifnhpnccpcaa.L
