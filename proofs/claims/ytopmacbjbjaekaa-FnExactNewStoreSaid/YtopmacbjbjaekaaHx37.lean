-- Made by this session's program gprint.py out of the translation. Not trusted: Lean checks it.
import Derived.Test.YtopmacbjbjaekaaHx0
import Derived.Test.YtopmacbjbjaekaaHx32
import Derived.Test.YtopmacbjbjaekaaHx34
import Derived.Test.YtopmacbjbjaekaaHx36
namespace Go.Proofs.Ytopmacbjbjaekaa.H
open Go.RowKit Go.Proofs.YtopmacbjbjaekaaW.PrintWords Go.Proofs.YtopmacbjbjaekaaW.PrintLast Go.Proofs.YtopmacbjbjaekaaW.PrintMore
attribute [local go_sem] max2_int min2_int max_two min_two max_three min_three max_four min_four   -- for this text's walks alone
set_option linter.unusedVariables false
set_option linter.unusedSimpArgs false

/-! ### laws_FnExactNewStore: function 13 -/
mutual
def laws_FnExactNewStore.j0 : Nat → Int → Bool → Bool → Int → Int → List (S107) → Int → Int → List (S107) → Option (Bool)
  | 0, _, _, _, _, _, _, _, _, _ => none
  | k + 1, x0, x4, x29, x612000, x612001, x612002, x619000, x619001, x619002 => if x29 = true then (some false) else ((laws_markStore.f k x619000 x619001 x619002 1).bind fun t620 => ((laws_heldStore.f k x619000 x619001 x619002 1).bind fun t621 => (if t621 < 0 then (some false) else (if t621 = t620 then ((impl_NewStore.f x0).bind fun bt622 => ((laws_eqStore.f k bt622.1 bt622.2.1 bt622.2.2.1 x612000 x612001 x612002).bind fun t629 => (if t629 = true then (laws_FnExactNewStore.j1 k t620 (bt622.2.2.2 != x4) x619000 x619001 x619002) else (laws_FnExactNewStore.j1 k t620 true x619000 x619001 x619002)))) else (some false)))))
def laws_FnExactNewStore.j1 : Nat → Int → Bool → Int → Int → List (S107) → Option (Bool)
  | 0, _, _, _, _, _ => none
  | k + 1, x7, x54, x619000, x619001, x619002 => if x54 = true then (some false) else ((laws_heldStore.f k x619000 x619001 x619002 1).bind fun t630 => (if t630 < 0 then (some false) else (if t630 = x7 then (some true) else (some false))))
end
def laws_FnExactNewStore.f (k : Nat) (a0 : Int) : Option (Bool) := (spec_NewStore.f a0).bind fun bt605 => ((impl_NewStore.f a0).bind fun bt612 => ((laws_eqStore.f k bt612.1 bt612.2.1 bt612.2.2.1 bt605.1 bt605.2.1 bt605.2.2.1).bind fun t619 => (if t619 = true then (laws_FnExactNewStore.j0 k a0 bt605.2.2.2 (bt612.2.2.2 != bt605.2.2.2) bt605.1 bt605.2.1 bt605.2.2.1 bt612.1 bt612.2.1 bt612.2.2.1) else (laws_FnExactNewStore.j0 k a0 bt605.2.2.2 true bt605.1 bt605.2.1 bt605.2.2.1 bt612.1 bt612.2.1 bt612.2.2.1))))
theorem laws_FnExactNewStore.mono_l : ∀ k, (∀ y0 y1 y2 y3 y4 y5 y6 y7 y8, LeO (laws_FnExactNewStore.j0 k y0 y1 y2 y3 y4 y5 y6 y7 y8) (laws_FnExactNewStore.j0 (k + 1) y0 y1 y2 y3 y4 y5 y6 y7 y8)) ∧ (∀ y0 y1 y2 y3 y4, LeO (laws_FnExactNewStore.j1 k y0 y1 y2 y3 y4) (laws_FnExactNewStore.j1 (k + 1) y0 y1 y2 y3 y4))
  | 0 => ⟨fun _ _ _ _ _ _ _ _ _ r h => by simp [laws_FnExactNewStore.j0] at h, fun _ _ _ _ _ r h => by simp [laws_FnExactNewStore.j1] at h⟩
  | k + 1 => by
    obtain ⟨ih0, ih1⟩ := laws_FnExactNewStore.mono_l k
    refine ⟨?_, ?_⟩
    · intro y0 y1 y2 y3 y4 y5 y6 y7 y8
      unfold laws_FnExactNewStore.j0
      repeat' first
      | (with_reducible exact ih0 _ _ _ _ _ _ _ _ _)
      | (with_reducible exact ih1 _ _ _ _ _)
      | (with_reducible exact laws_eqStore.mono _ _ _ _ _ _ _)
      | (with_reducible exact laws_heldStore.mono _ _ _ _ _)
      | (with_reducible exact laws_markStore.mono _ _ _ _ _)
      | (with_reducible exact LeO.refl _)
      | (with_reducible exact LeO.none _)
      | (with_reducible refine LeO.ite ?_ ?_)
      | (with_reducible refine LeO.bind ?_ (fun _ => ?_))
      | exact ih0 _ _ _ _ _ _ _ _ _
      | exact ih1 _ _ _ _ _
      | exact laws_eqStore.mono _ _ _ _ _ _ _
      | exact laws_heldStore.mono _ _ _ _ _
      | exact laws_markStore.mono _ _ _ _ _
      | exact LeO.none _
      | refine LeO.ite ?_ ?_
      | refine LeO.bind ?_ (fun _ => ?_)
    · intro y0 y1 y2 y3 y4
      unfold laws_FnExactNewStore.j1
      repeat' first
      | (with_reducible exact ih0 _ _ _ _ _ _ _ _ _)
      | (with_reducible exact ih1 _ _ _ _ _)
      | (with_reducible exact laws_eqStore.mono _ _ _ _ _ _ _)
      | (with_reducible exact laws_heldStore.mono _ _ _ _ _)
      | (with_reducible exact laws_markStore.mono _ _ _ _ _)
      | (with_reducible exact LeO.refl _)
      | (with_reducible exact LeO.none _)
      | (with_reducible refine LeO.ite ?_ ?_)
      | (with_reducible refine LeO.bind ?_ (fun _ => ?_))
      | exact ih0 _ _ _ _ _ _ _ _ _
      | exact ih1 _ _ _ _ _
      | exact laws_eqStore.mono _ _ _ _ _ _ _
      | exact laws_heldStore.mono _ _ _ _ _
      | exact laws_markStore.mono _ _ _ _ _
      | exact LeO.none _
      | refine LeO.ite ?_ ?_
      | refine LeO.bind ?_ (fun _ => ?_)
theorem laws_FnExactNewStore.mono : ∀ a0 k, LeO (laws_FnExactNewStore.f k a0) (laws_FnExactNewStore.f (k + 1) a0) := by
  intro a0 k
  obtain ⟨ih0, ih1⟩ := laws_FnExactNewStore.mono_l k
  unfold laws_FnExactNewStore.f
  repeat' first
      | (with_reducible exact ih0 _ _ _ _ _ _ _ _ _)
      | (with_reducible exact ih1 _ _ _ _ _)
      | (with_reducible exact laws_eqStore.mono _ _ _ _ _ _ _)
      | (with_reducible exact laws_heldStore.mono _ _ _ _ _)
      | (with_reducible exact laws_markStore.mono _ _ _ _ _)
      | (with_reducible exact LeO.refl _)
      | (with_reducible exact LeO.none _)
      | (with_reducible refine LeO.ite ?_ ?_)
      | (with_reducible refine LeO.bind ?_ (fun _ => ?_))
      | exact ih0 _ _ _ _ _ _ _ _ _
      | exact ih1 _ _ _ _ _
      | exact laws_eqStore.mono _ _ _ _ _ _ _
      | exact laws_heldStore.mono _ _ _ _ _
      | exact laws_markStore.mono _ _ _ _ _
      | exact LeO.none _
      | refine LeO.ite ?_ ?_
      | refine LeO.bind ?_ (fun _ => ?_)
set_option maxHeartbeats 8000000 in
set_option maxRecDepth 100000 in
theorem laws_FnExactNewStore.calls (k : Nat) (a0 : Int) (r : Bool) (hr_ : Aside0 (r = true)) (w : World) (h : laws_FnExactNewStore.f k a0 = some r) :
    Calls Try.prog 13 #[.int .i64 a0] w fun e w' => e = .returned (.bool r) ∧ Below w.heap.size w w' := by
  have hu61 := Try.underlying61
  have HB := Aside0.mk (Below.refl w.heap.size w)
  have H : ((spec_NewStore.f a0).bind fun bt605 => ((impl_NewStore.f a0).bind fun bt612 => ((laws_eqStore.f k bt612.1 bt612.2.1 bt612.2.2.1 bt605.1 bt605.2.1 bt605.2.2.1).bind fun t619 => (if t619 = true then (laws_FnExactNewStore.j0 k a0 bt605.2.2.2 (bt612.2.2.2 != bt605.2.2.2) bt605.1 bt605.2.1 bt605.2.2.1 bt612.1 bt612.2.1 bt612.2.2.1) else (laws_FnExactNewStore.j0 k a0 bt605.2.2.2 true bt605.1 bt605.2.1 bt605.2.2.1 bt612.1 bt612.2.1 bt612.2.2.1))))) = some r := h
  clear h
  replace H := Option.bind_eq_some_iff.mp H
  obtain ⟨⟨t605, t606, t607, t610⟩, A20, H⟩ := H
  replace H : ((impl_NewStore.f a0).bind fun bt612 => ((laws_eqStore.f k bt612.1 bt612.2.1 bt612.2.2.1 t605 t606 t607).bind fun t619 => (if t619 = true then (laws_FnExactNewStore.j0 k a0 t610 (bt612.2.2.2 != t610) t605 t606 t607 bt612.1 bt612.2.1 bt612.2.2.1) else (laws_FnExactNewStore.j0 k a0 t610 true t605 t606 t607 bt612.1 bt612.2.1 bt612.2.2.1)))) = some r := H
  have A2 := Aside0.mk A20
  clear A20
  replace H := Option.bind_eq_some_iff.mp H
  obtain ⟨⟨t612, t613, t614, t617⟩, A30, H⟩ := H
  replace H : ((laws_eqStore.f k t612 t613 t614 t605 t606 t607).bind fun t619 => (if t619 = true then (laws_FnExactNewStore.j0 k a0 t610 (t617 != t610) t605 t606 t607 t612 t613 t614) else (laws_FnExactNewStore.j0 k a0 t610 true t605 t606 t607 t612 t613 t614))) = some r := H
  have A3 := Aside0.mk A30
  clear A30
  have HC4 := Aside0.mk H
  clear H
  go_enter Try.func13, Try.ntmps13
  go_upto_region 3 with (first | ((with_reducible refine gate_callee (f := 41) rfl ?_); refine goesL_ (some 13) rfl rfl Try.func41 (by kernel_rfl) rfl #[.int .i64 a0] rfl (by (try simp only [List.map_toArray, List.map_cons, List.map_nil]); first | done | rfl | (simp only [List.length_drop, List.length_take]; rfl)) ?_; (with_reducible refine (spec_NewStore.calls a0 t605 t606 t607 t610 _ A2.out).mono ?_); rintro e w5 ⟨v608, rfl, ho0, hb⟩; refine ⟨_, rfl, ?_⟩; have n0_ := Aside0.mk (Kd.S_lower ho0 (below_size (by repeat (first | (with_reducible first | exact HB.out | apply below_alloc | apply pw_below_drewN | apply below_drew1) | exact HB.out)))); have n1_ := Aside0.mk (below_step (by repeat (first | (with_reducible first | exact HB.out | apply below_alloc | apply pw_below_drewN | apply below_drew1) | exact HB.out)) hb); clear HB; have HO609 := n0_; have HB := n1_; clear n0_ n1_; (try clear hb); (try clear hb2); (try clear hk); (try clear hi); (try clear ho0)) | ((with_reducible refine gate_dst (N := 3) rfl ?_); refine box_event ?hg (N := 3) ?hd (cs := #[.int .i64 0, .int .i64 0, .slice none 0 0]) (t := 61) ?hr ?_; (case hd => rfl); (case hg => rfl); (case hr => first | (go_simp; done) | (go_simp; rfl)); intro gb611 hg w6 hbox hb; have n0_ := Aside0.mk (Kd.S_below (by (with_reducible repeat (first | apply Kd.S_alloc | apply Kd.S_drewN | apply Kd.S_drew)); exact HO609.out) hb); have n1_ := Aside0.mk (below_step (by repeat (first | (with_reducible first | exact HB.out | apply below_alloc | apply pw_below_drewN | apply below_drew1) | exact HB.out)) hb); have n2_ := Aside0.mk (hbox); have n3_ := Aside0.mk ((by rw [hg]; exact (below_size (by repeat (first | (with_reducible first | exact HB.out | apply below_alloc | apply pw_below_drewN | apply below_drew1) | exact HB.out))) : w.heap.size ≤ gb611)); have n4_ := Aside0.mk ((by rw [hg]; exact (below_size (by repeat (first | (with_reducible first | exact HB.out | apply below_alloc | apply pw_below_drewN | apply below_drew1) | exact HB.out))) : w.heap.size ≤ gb611)); clear HO609; clear HB; have HO609 := n0_; have HB := n1_; have BK611 := n2_; have GW611 := n3_; have GE611 := n4_; clear n0_ n1_ n2_ n3_ n4_; clear hb hbox hg; have hcz7_0 : w6.cell? ⟨gb611, 0, none⟩ = some (.int .i64 0) := (blk_cell BK611.out 0).trans rfl; have hcz7_1 : w6.cell? ⟨gb611, 1, none⟩ = some (.int .i64 0) := (blk_cell BK611.out 1).trans rfl; have hcz7_2 : w6.cell? ⟨gb611, 2, none⟩ = some (.slice none 0 0) := (blk_cell BK611.out 2).trans rfl; have hfz7_0 := blk_frozen BK611.out 0; have hfz7_1 := blk_frozen BK611.out 1; have hfz7_2 := blk_frozen BK611.out 2; obtain ⟨Ao8, co8, eo8⟩ := Kd.S_slice HO609.out; subst eo8) | ((with_reducible refine gate_callee (f := 42) rfl ?_); refine goesL_ (some 18) rfl rfl Try.func42 (by kernel_rfl) rfl #[.int .i64 a0] rfl (by (try simp only [List.map_toArray, List.map_cons, List.map_nil]); first | done | rfl | (simp only [List.length_drop, List.length_take]; rfl)) ?_; (with_reducible refine (impl_NewStore.calls a0 t612 t613 t614 t617 _ A3.out).mono ?_); rintro e w9 ⟨v615, rfl, ho0, hb⟩; refine ⟨_, rfl, ?_⟩; have n0_ := Aside0.mk (Kd.S_elder' (by (with_reducible repeat (first | apply Kd.S_alloc | apply Kd.S_drewN | apply Kd.S_drew)); exact (Kd.S_mono (Kd.S_far (p := ⟨gb611, 2, none⟩) (Kd.S_far (p := ⟨gb611, 1, none⟩) (Kd.S_far (p := ⟨gb611, 0, none⟩) (Kd.S_types HO609.out BK611.out (by decide)) (fun _ hk => hk.2) (.int .i64 t605)) (fun _ hk => hk.2) (.int .i64 t606)) (fun _ hk => hk.2) (.slice Ao8 t607.length co8)) (fun _ h_ => h_.1))) (Kd.S_base ho0) hb); have n1_ := Aside0.mk (Kd.S_lower (Kd.S_new' ho0 (Kd.S_lt (by (with_reducible repeat (first | apply Kd.S_alloc | apply Kd.S_drewN | apply Kd.S_drew)); exact (Kd.S_mono (Kd.S_far (p := ⟨gb611, 2, none⟩) (Kd.S_far (p := ⟨gb611, 1, none⟩) (Kd.S_far (p := ⟨gb611, 0, none⟩) (Kd.S_types HO609.out BK611.out (by decide)) (fun _ hk => hk.2) (.int .i64 t605)) (fun _ hk => hk.2) (.int .i64 t606)) (fun _ hk => hk.2) (.slice Ao8 t607.length co8)) (fun _ h_ => h_.1))))) (below_size (by repeat (first | (with_reducible first | exact HB.out | apply below_alloc | apply pw_below_drewN | apply below_drew1 | refine below_set ?_ GE611.out) | exact HB.out)))); have n2_ := Aside0.mk (blk_below (g := gb611) (o := .cells #[.int .i64 t605, .int .i64 t606, .slice Ao8 t607.length co8] 61 (0, 0)) (by (with_reducible repeat (first | refine blk_drewN ?_ _ | refine blk_drew ?_ | refine blk_alloc ?_ _)); refine blk_put (cs := #[.int .i64 t605, .int .i64 t606, .slice none 0 0]) ?_ 2 _ rfl; (with_reducible repeat (first | refine blk_drewN ?_ _ | refine blk_drew ?_ | refine blk_alloc ?_ _)); refine blk_put (cs := #[.int .i64 t605, .int .i64 0, .slice none 0 0]) ?_ 1 _ rfl; (with_reducible repeat (first | refine blk_drewN ?_ _ | refine blk_drew ?_ | refine blk_alloc ?_ _)); refine blk_put (cs := #[.int .i64 0, .int .i64 0, .slice none 0 0]) ?_ 0 _ rfl; (with_reducible repeat (first | refine blk_drewN ?_ _ | refine blk_drew ?_ | refine blk_alloc ?_ _)); exact BK611.out) hb); have n3_ := Aside0.mk (below_step (by repeat (first | (with_reducible first | exact HB.out | apply below_alloc | apply pw_below_drewN | apply below_drew1 | refine below_set ?_ GE611.out) | exact HB.out)) hb); clear HO609; clear BK611; clear HB; have HO609 := n0_; have HO616 := n1_; have BK611 := n2_; have HB := n3_; clear n0_ n1_ n2_ n3_; (try clear hb); (try clear hb2); (try clear hk); (try clear hi); (try clear ho0)) | ((with_reducible refine gate_dst (N := 5) rfl ?_); refine box_event ?hg (N := 5) ?hd (cs := #[.int .i64 0, .int .i64 0, .slice none 0 0]) (t := 61) ?hr ?_; (case hd => rfl); (case hg => rfl); (case hr => first | (go_simp; done) | (go_simp; rfl)); intro gb618 hg w10 hbox hb; have n0_ := Aside0.mk (Kd.S_below (by (with_reducible repeat (first | apply Kd.S_alloc | apply Kd.S_drewN | apply Kd.S_drew)); exact HO609.out) hb); have n1_ := Aside0.mk (Kd.S_below (by (with_reducible repeat (first | apply Kd.S_alloc | apply Kd.S_drewN | apply Kd.S_drew)); exact HO616.out) hb); have n2_ := Aside0.mk (blk_below (g := gb611) (o := .cells #[.int .i64 t605, .int .i64 t606, .slice Ao8 t607.length co8] 61 (0, 0)) (by (with_reducible repeat (first | refine blk_drewN ?_ _ | refine blk_drew ?_ | refine blk_alloc ?_ _)); exact BK611.out) hb); have n3_ := Aside0.mk (below_step (by repeat (first | (with_reducible first | exact HB.out | apply below_alloc | apply pw_below_drewN | apply below_drew1 | refine below_set ?_ GE611.out) | exact HB.out)) hb); have n4_ := Aside0.mk (hbox); have n5_ := Aside0.mk ((by rw [hg]; exact (below_size (by repeat (first | (with_reducible first | exact HB.out | apply below_alloc | apply pw_below_drewN | apply below_drew1 | refine below_set ?_ GE611.out) | exact HB.out))) : w.heap.size ≤ gb618)); have n6_ := Aside0.mk ((by rw [hg]; exact (below_size (by repeat (first | (with_reducible first | exact HB.out | apply below_alloc | apply pw_below_drewN | apply below_drew1 | refine below_set ?_ GE611.out) | exact HB.out))) : w.heap.size ≤ gb618)); have n7_ := Aside0.mk ((by rw [hg]; exact Nat.ne_of_lt (blk_lt (g := gb611) (o := .cells #[.int .i64 t605, .int .i64 t606, .slice Ao8 t607.length co8] 61 (0, 0)) (by (with_reducible repeat (first | refine blk_drewN ?_ _ | refine blk_drew ?_ | refine blk_alloc ?_ _)); exact BK611.out)) : gb611 ≠ gb618)); have n8_ := Aside0.mk ((by rw [hg]; exact Nat.ne_of_gt (blk_lt (g := gb611) (o := .cells #[.int .i64 t605, .int .i64 t606, .slice Ao8 t607.length co8] 61 (0, 0)) (by (with_reducible repeat (first | refine blk_drewN ?_ _ | refine blk_drew ?_ | refine blk_alloc ?_ _)); exact BK611.out)) : gb618 ≠ gb611)); clear HO609; clear HO616; clear BK611; clear HB; have HO609 := n0_; have HO616 := n1_; have BK611 := n2_; have HB := n3_; have BK618 := n4_; have GW618 := n5_; have GE618 := n6_; have NB611_618 := n7_; have NB618_611 := n8_; clear n0_ n1_ n2_ n3_ n4_ n5_ n6_ n7_ n8_; clear hb hbox hg; have hnb11 := NB618_611.out; have hnc11 := NB611_618.out; have hcz12_0 : w10.cell? ⟨gb618, 0, none⟩ = some (.int .i64 0) := (blk_cell BK618.out 0).trans rfl; have hcz12_1 : w10.cell? ⟨gb618, 1, none⟩ = some (.int .i64 0) := (blk_cell BK618.out 1).trans rfl; have hcz12_2 : w10.cell? ⟨gb618, 2, none⟩ = some (.slice none 0 0) := (blk_cell BK618.out 2).trans rfl; have hfz12_0 := blk_frozen BK618.out 0; have hfz12_1 := blk_frozen BK618.out 1; have hfz12_2 := blk_frozen BK618.out 2; obtain ⟨Ao13, co13, eo13⟩ := Kd.S_slice HO616.out; subst eo13))
  (try simp only [Act.put, List.setIfInBounds_toArray, List.set_cons_zero, List.set_cons_succ])
  go_cut [29] (fun v29 wc => ∃ (kq : Nat) (x29_3 : Bool), v29 = .bool x29_3 ∧ Aside0 (laws_FnExactNewStore.j0 kq a0 t610 x29_3 t605 t606 t607 t612 t613 t614 = some r) ∧ Aside0 (kq ≤ k) ∧ Aside0 (Kd.S k107 107 wc w.heap.size (fun k_ => some k_ ≠ ((.slice Ao13 t614.length co13) : Value).ownBlock) (.slice Ao8 t607.length co8) t607) ∧ Aside0 (Kd.S k107 107 wc w.heap.size (fun k_ => some k_ ≠ ((.slice Ao8 t607.length co8) : Value).ownBlock) (.slice Ao13 t614.length co13) t614) ∧ Aside0 (wc.heap[gb611]? = some (.cells #[.int .i64 t605, .int .i64 t606, (.slice Ao8 t607.length co8)] 61 (0, 0))) ∧ Aside0 (wc.heap[gb618]? = some (.cells #[.int .i64 t612, .int .i64 t613, (.slice Ao13 t614.length co13)] 61 (0, 0))) ∧ Aside0 (Below w.heap.size w wc))
  case first =>
    have H := HC4.out
    clear HC4
    replace H := Option.bind_eq_some_iff.mp H
    obtain ⟨t619, A140, H⟩ := H
    replace H : (if t619 = true then (laws_FnExactNewStore.j0 k a0 t610 (t617 != t610) t605 t606 t607 t612 t613 t614) else (laws_FnExactNewStore.j0 k a0 t610 true t605 t606 t607 t612 t613 t614)) = some r := H
    have A14 := Aside0.mk A140
    clear A140
    by_cases c15 : t619 = true
    · subst c15
      have H1 : (laws_FnExactNewStore.j0 k a0 t610 (t617 != t610) t605 t606 t607 t612 t613 t614) = some r := by rw [if_pos rfl] at H; exact H
      clear H
      have H := H1
      clear H1
      have H' := Aside0.mk H
      clear H
      have hnb16 := NB618_611.out
      have hnc16 := NB611_618.out
      have hcz17_0 : w10.cell? ⟨gb618, 0, none⟩ = some (.int .i64 0) := (blk_cell BK618.out 0).trans rfl
      have hcz17_1 : w10.cell? ⟨gb618, 1, none⟩ = some (.int .i64 0) := (blk_cell BK618.out 1).trans rfl
      have hcz17_2 : w10.cell? ⟨gb618, 2, none⟩ = some (.slice none 0 0) := (blk_cell BK618.out 2).trans rfl
      have hfz17_0 := blk_frozen BK618.out 0
      have hfz17_1 := blk_frozen BK618.out 1
      have hfz17_2 := blk_frozen BK618.out 2
      have hcz18_0 : w10.cell? ⟨gb611, 0, none⟩ = some (.int .i64 t605) := (blk_cell BK611.out 0).trans rfl
      have hcz18_1 : w10.cell? ⟨gb611, 1, none⟩ = some (.int .i64 t606) := (blk_cell BK611.out 1).trans rfl
      have hcz18_2 : w10.cell? ⟨gb611, 2, none⟩ = some (.slice Ao8 t607.length co8) := (blk_cell BK611.out 2).trans rfl
      have hfz18_0 := blk_frozen BK611.out 0
      have hfz18_1 := blk_frozen BK611.out 1
      have hfz18_2 := blk_frozen BK611.out 2
      go_wp2_with (first | ((with_reducible refine gate_callee (f := 43) rfl ?_); refine goesL_ (some 23) rfl rfl Try.func43 (by kernel_rfl) rfl #[.agg #[.int .i64 t612, .int .i64 t613, .slice Ao13 t614.length co13], .agg #[.int .i64 t605, .int .i64 t606, .slice Ao8 t607.length co8]] rfl (by (try simp only [List.map_toArray, List.map_cons, List.map_nil]); first | done | rfl | (simp only [List.length_drop, List.length_take]; rfl)) ?_; (with_reducible refine (laws_eqStore.calls k t612 t613 _ _ t614 t605 t606 _ _ t607 true _ ?side1 ?side2 ?side3 ?side4 A14.out).mono ?_); (case side1 => refine (Kd.S_reads' (e := 107) (base := w.heap.size) (ok := fun k_ => (True ∧ some k_ ≠ (.slice Ao8 t607.length co8 : Value).ownBlock)) (n := t614.length) (c := co13) ?_).2.2; exact (by (with_reducible repeat (first | apply Kd.S_alloc | apply Kd.S_drewN | apply Kd.S_drew)); exact (Kd.S_mono (Kd.S_far (p := ⟨gb618, 2, none⟩) (Kd.S_far (p := ⟨gb618, 1, none⟩) (Kd.S_far (p := ⟨gb618, 0, none⟩) (Kd.S_types HO616.out BK618.out (by decide)) (fun _ hk => hk.2) (.int .i64 t612)) (fun _ hk => hk.2) (.int .i64 t613)) (fun _ hk => hk.2) (.slice Ao13 t614.length co13)) (fun _ h_ => h_.1)))); (case side2 => exact (Kd.S_reads' HO616.out).2.1); (case side3 => refine (Kd.S_reads' (e := 107) (base := w.heap.size) (ok := fun k_ => (True ∧ some k_ ≠ (.slice Ao13 t614.length co13 : Value).ownBlock)) (n := t607.length) (c := co8) ?_).2.2; exact (by (with_reducible repeat (first | apply Kd.S_alloc | apply Kd.S_drewN | apply Kd.S_drew)); exact (Kd.S_mono (Kd.S_far (p := ⟨gb618, 2, none⟩) (Kd.S_far (p := ⟨gb618, 1, none⟩) (Kd.S_far (p := ⟨gb618, 0, none⟩) (Kd.S_types HO609.out BK618.out (by decide)) (fun _ hk => hk.2) (.int .i64 t612)) (fun _ hk => hk.2) (.int .i64 t613)) (fun _ hk => hk.2) (.slice Ao13 t614.length co13)) (fun _ h_ => h_.1)))); (case side4 => exact (Kd.S_reads' HO609.out).2.1); rintro e w19 ⟨rfl, hb⟩; refine ⟨_, rfl, ?_⟩; have n0_ := Aside0.mk (Kd.S_below (by (with_reducible repeat (first | apply Kd.S_alloc | apply Kd.S_drewN | apply Kd.S_drew)); exact (Kd.S_mono (Kd.S_far (p := ⟨gb618, 2, none⟩) (Kd.S_far (p := ⟨gb618, 1, none⟩) (Kd.S_far (p := ⟨gb618, 0, none⟩) (Kd.S_types HO609.out BK618.out (by decide)) (fun _ hk => hk.2) (.int .i64 t612)) (fun _ hk => hk.2) (.int .i64 t613)) (fun _ hk => hk.2) (.slice Ao13 t614.length co13)) (fun _ h_ => h_.1))) hb); have n1_ := Aside0.mk (Kd.S_below (by (with_reducible repeat (first | apply Kd.S_alloc | apply Kd.S_drewN | apply Kd.S_drew)); exact (Kd.S_mono (Kd.S_far (p := ⟨gb618, 2, none⟩) (Kd.S_far (p := ⟨gb618, 1, none⟩) (Kd.S_far (p := ⟨gb618, 0, none⟩) (Kd.S_types HO616.out BK618.out (by decide)) (fun _ hk => hk.2) (.int .i64 t612)) (fun _ hk => hk.2) (.int .i64 t613)) (fun _ hk => hk.2) (.slice Ao13 t614.length co13)) (fun _ h_ => h_.1))) hb); have n2_ := Aside0.mk (blk_below (g := gb611) (o := .cells #[.int .i64 t605, .int .i64 t606, .slice Ao8 t607.length co8] 61 (0, 0)) (by (with_reducible repeat (first | refine blk_drewN ?_ _ | refine blk_drew ?_ | refine blk_alloc ?_ _)); refine blk_far ?_ NB611_618.out _; (with_reducible repeat (first | refine blk_drewN ?_ _ | refine blk_drew ?_ | refine blk_alloc ?_ _)); refine blk_far ?_ NB611_618.out _; (with_reducible repeat (first | refine blk_drewN ?_ _ | refine blk_drew ?_ | refine blk_alloc ?_ _)); refine blk_far ?_ NB611_618.out _; (with_reducible repeat (first | refine blk_drewN ?_ _ | refine blk_drew ?_ | refine blk_alloc ?_ _)); exact BK611.out) hb); have n3_ := Aside0.mk (blk_below (g := gb618) (o := .cells #[.int .i64 t612, .int .i64 t613, .slice Ao13 t614.length co13] 61 (0, 0)) (by (with_reducible repeat (first | refine blk_drewN ?_ _ | refine blk_drew ?_ | refine blk_alloc ?_ _)); refine blk_put (cs := #[.int .i64 t612, .int .i64 t613, .slice none 0 0]) ?_ 2 _ rfl; (with_reducible repeat (first | refine blk_drewN ?_ _ | refine blk_drew ?_ | refine blk_alloc ?_ _)); refine blk_put (cs := #[.int .i64 t612, .int .i64 0, .slice none 0 0]) ?_ 1 _ rfl; (with_reducible repeat (first | refine blk_drewN ?_ _ | refine blk_drew ?_ | refine blk_alloc ?_ _)); refine blk_put (cs := #[.int .i64 0, .int .i64 0, .slice none 0 0]) ?_ 0 _ rfl; (with_reducible repeat (first | refine blk_drewN ?_ _ | refine blk_drew ?_ | refine blk_alloc ?_ _)); exact BK618.out) hb); have n4_ := Aside0.mk (below_step (by repeat (first | (with_reducible first | exact HB.out | apply below_alloc | apply pw_below_drewN | apply below_drew1 | refine below_set ?_ GE611.out | refine below_set ?_ GE618.out) | exact HB.out)) hb); clear HO609; clear HO616; clear BK611; clear BK618; clear HB; have HO609 := n0_; have HO616 := n1_; have BK611 := n2_; have BK618 := n3_; have HB := n4_; clear n0_ n1_ n2_ n3_ n4_; (try clear hb); (try clear hb2); (try clear hk); (try clear hi)))
      go_meet
      case rel => exact ⟨_, ((t617 != t610)), (by first | rfl | (simp; done) | (simp [*]; done)), H', ⟨by first | omega | exact Nat.le_refl _⟩, ⟨by (with_reducible repeat (first | apply Kd.S_alloc | apply Kd.S_drewN | apply Kd.S_drew)); exact Kd.S_mono HO609.out (fun _ hk => hk.2)⟩, ⟨by (with_reducible repeat (first | apply Kd.S_alloc | apply Kd.S_drewN | apply Kd.S_drew)); exact Kd.S_mono HO616.out (fun _ hk => hk.2)⟩, ⟨by (with_reducible repeat (first | refine blk_drewN ?_ _ | refine blk_drew ?_ | refine blk_alloc ?_ _)); exact BK611.out⟩, ⟨by (with_reducible repeat (first | refine blk_drewN ?_ _ | refine blk_drew ?_ | refine blk_alloc ?_ _)); exact BK618.out⟩, ⟨by repeat (first | (with_reducible first | exact HB.out | apply below_alloc | apply pw_below_drewN | apply below_drew1 | refine below_set ?_ GE611.out | refine below_set ?_ GE618.out) | exact HB.out)⟩⟩
    · replace c15 := Bool.eq_false_iff.mpr c15
      subst c15
      have H1 : (laws_FnExactNewStore.j0 k a0 t610 true t605 t606 t607 t612 t613 t614) = some r := by rw [if_neg (show ¬ (false = true) by decide)] at H; exact H
      clear H
      have H := H1
      clear H1
      have H' := Aside0.mk H
      clear H
      have hnb20 := NB618_611.out
      have hnc20 := NB611_618.out
      have hcz21_0 : w10.cell? ⟨gb618, 0, none⟩ = some (.int .i64 0) := (blk_cell BK618.out 0).trans rfl
      have hcz21_1 : w10.cell? ⟨gb618, 1, none⟩ = some (.int .i64 0) := (blk_cell BK618.out 1).trans rfl
      have hcz21_2 : w10.cell? ⟨gb618, 2, none⟩ = some (.slice none 0 0) := (blk_cell BK618.out 2).trans rfl
      have hfz21_0 := blk_frozen BK618.out 0
      have hfz21_1 := blk_frozen BK618.out 1
      have hfz21_2 := blk_frozen BK618.out 2
      have hcz22_0 : w10.cell? ⟨gb611, 0, none⟩ = some (.int .i64 t605) := (blk_cell BK611.out 0).trans rfl
      have hcz22_1 : w10.cell? ⟨gb611, 1, none⟩ = some (.int .i64 t606) := (blk_cell BK611.out 1).trans rfl
      have hcz22_2 : w10.cell? ⟨gb611, 2, none⟩ = some (.slice Ao8 t607.length co8) := (blk_cell BK611.out 2).trans rfl
      have hfz22_0 := blk_frozen BK611.out 0
      have hfz22_1 := blk_frozen BK611.out 1
      have hfz22_2 := blk_frozen BK611.out 2
      go_wp2_with (first | ((with_reducible refine gate_callee (f := 43) rfl ?_); refine goesL_ (some 23) rfl rfl Try.func43 (by kernel_rfl) rfl #[.agg #[.int .i64 t612, .int .i64 t613, .slice Ao13 t614.length co13], .agg #[.int .i64 t605, .int .i64 t606, .slice Ao8 t607.length co8]] rfl (by (try simp only [List.map_toArray, List.map_cons, List.map_nil]); first | done | rfl | (simp only [List.length_drop, List.length_take]; rfl)) ?_; (with_reducible refine (laws_eqStore.calls k t612 t613 _ _ t614 t605 t606 _ _ t607 false _ ?side1 ?side2 ?side3 ?side4 A14.out).mono ?_); (case side1 => refine (Kd.S_reads' (e := 107) (base := w.heap.size) (ok := fun k_ => (True ∧ some k_ ≠ (.slice Ao8 t607.length co8 : Value).ownBlock)) (n := t614.length) (c := co13) ?_).2.2; exact (by (with_reducible repeat (first | apply Kd.S_alloc | apply Kd.S_drewN | apply Kd.S_drew)); exact (Kd.S_mono (Kd.S_far (p := ⟨gb618, 2, none⟩) (Kd.S_far (p := ⟨gb618, 1, none⟩) (Kd.S_far (p := ⟨gb618, 0, none⟩) (Kd.S_types HO616.out BK618.out (by decide)) (fun _ hk => hk.2) (.int .i64 t612)) (fun _ hk => hk.2) (.int .i64 t613)) (fun _ hk => hk.2) (.slice Ao13 t614.length co13)) (fun _ h_ => h_.1)))); (case side2 => exact (Kd.S_reads' HO616.out).2.1); (case side3 => refine (Kd.S_reads' (e := 107) (base := w.heap.size) (ok := fun k_ => (True ∧ some k_ ≠ (.slice Ao13 t614.length co13 : Value).ownBlock)) (n := t607.length) (c := co8) ?_).2.2; exact (by (with_reducible repeat (first | apply Kd.S_alloc | apply Kd.S_drewN | apply Kd.S_drew)); exact (Kd.S_mono (Kd.S_far (p := ⟨gb618, 2, none⟩) (Kd.S_far (p := ⟨gb618, 1, none⟩) (Kd.S_far (p := ⟨gb618, 0, none⟩) (Kd.S_types HO609.out BK618.out (by decide)) (fun _ hk => hk.2) (.int .i64 t612)) (fun _ hk => hk.2) (.int .i64 t613)) (fun _ hk => hk.2) (.slice Ao13 t614.length co13)) (fun _ h_ => h_.1)))); (case side4 => exact (Kd.S_reads' HO609.out).2.1); rintro e w23 ⟨rfl, hb⟩; refine ⟨_, rfl, ?_⟩; have n0_ := Aside0.mk (Kd.S_below (by (with_reducible repeat (first | apply Kd.S_alloc | apply Kd.S_drewN | apply Kd.S_drew)); exact (Kd.S_mono (Kd.S_far (p := ⟨gb618, 2, none⟩) (Kd.S_far (p := ⟨gb618, 1, none⟩) (Kd.S_far (p := ⟨gb618, 0, none⟩) (Kd.S_types HO609.out BK618.out (by decide)) (fun _ hk => hk.2) (.int .i64 t612)) (fun _ hk => hk.2) (.int .i64 t613)) (fun _ hk => hk.2) (.slice Ao13 t614.length co13)) (fun _ h_ => h_.1))) hb); have n1_ := Aside0.mk (Kd.S_below (by (with_reducible repeat (first | apply Kd.S_alloc | apply Kd.S_drewN | apply Kd.S_drew)); exact (Kd.S_mono (Kd.S_far (p := ⟨gb618, 2, none⟩) (Kd.S_far (p := ⟨gb618, 1, none⟩) (Kd.S_far (p := ⟨gb618, 0, none⟩) (Kd.S_types HO616.out BK618.out (by decide)) (fun _ hk => hk.2) (.int .i64 t612)) (fun _ hk => hk.2) (.int .i64 t613)) (fun _ hk => hk.2) (.slice Ao13 t614.length co13)) (fun _ h_ => h_.1))) hb); have n2_ := Aside0.mk (blk_below (g := gb611) (o := .cells #[.int .i64 t605, .int .i64 t606, .slice Ao8 t607.length co8] 61 (0, 0)) (by (with_reducible repeat (first | refine blk_drewN ?_ _ | refine blk_drew ?_ | refine blk_alloc ?_ _)); refine blk_far ?_ NB611_618.out _; (with_reducible repeat (first | refine blk_drewN ?_ _ | refine blk_drew ?_ | refine blk_alloc ?_ _)); refine blk_far ?_ NB611_618.out _; (with_reducible repeat (first | refine blk_drewN ?_ _ | refine blk_drew ?_ | refine blk_alloc ?_ _)); refine blk_far ?_ NB611_618.out _; (with_reducible repeat (first | refine blk_drewN ?_ _ | refine blk_drew ?_ | refine blk_alloc ?_ _)); exact BK611.out) hb); have n3_ := Aside0.mk (blk_below (g := gb618) (o := .cells #[.int .i64 t612, .int .i64 t613, .slice Ao13 t614.length co13] 61 (0, 0)) (by (with_reducible repeat (first | refine blk_drewN ?_ _ | refine blk_drew ?_ | refine blk_alloc ?_ _)); refine blk_put (cs := #[.int .i64 t612, .int .i64 t613, .slice none 0 0]) ?_ 2 _ rfl; (with_reducible repeat (first | refine blk_drewN ?_ _ | refine blk_drew ?_ | refine blk_alloc ?_ _)); refine blk_put (cs := #[.int .i64 t612, .int .i64 0, .slice none 0 0]) ?_ 1 _ rfl; (with_reducible repeat (first | refine blk_drewN ?_ _ | refine blk_drew ?_ | refine blk_alloc ?_ _)); refine blk_put (cs := #[.int .i64 0, .int .i64 0, .slice none 0 0]) ?_ 0 _ rfl; (with_reducible repeat (first | refine blk_drewN ?_ _ | refine blk_drew ?_ | refine blk_alloc ?_ _)); exact BK618.out) hb); have n4_ := Aside0.mk (below_step (by repeat (first | (with_reducible first | exact HB.out | apply below_alloc | apply pw_below_drewN | apply below_drew1 | refine below_set ?_ GE611.out | refine below_set ?_ GE618.out) | exact HB.out)) hb); clear HO609; clear HO616; clear BK611; clear BK618; clear HB; have HO609 := n0_; have HO616 := n1_; have BK611 := n2_; have BK618 := n3_; have HB := n4_; clear n0_ n1_ n2_ n3_ n4_; (try clear hb); (try clear hb2); (try clear hk); (try clear hi)))
      go_meet
      case rel => exact ⟨_, (true), (by first | rfl | (simp; done) | (simp [*]; done)), H', ⟨by first | omega | exact Nat.le_refl _⟩, ⟨by (with_reducible repeat (first | apply Kd.S_alloc | apply Kd.S_drewN | apply Kd.S_drew)); exact Kd.S_mono HO609.out (fun _ hk => hk.2)⟩, ⟨by (with_reducible repeat (first | apply Kd.S_alloc | apply Kd.S_drewN | apply Kd.S_drew)); exact Kd.S_mono HO616.out (fun _ hk => hk.2)⟩, ⟨by (with_reducible repeat (first | refine blk_drewN ?_ _ | refine blk_drew ?_ | refine blk_alloc ?_ _)); exact BK611.out⟩, ⟨by (with_reducible repeat (first | refine blk_drewN ?_ _ | refine blk_drew ?_ | refine blk_alloc ?_ _)); exact BK618.out⟩, ⟨by repeat (first | (with_reducible first | exact HB.out | apply below_alloc | apply pw_below_drewN | apply below_drew1 | refine below_set ?_ GE611.out | refine below_set ?_ GE618.out) | exact HB.out)⟩⟩
  case rest =>
    clear HC4
    try clear c1
    try clear c2
    try clear p2
    try clear c4
    try clear c11
    try clear c13
    try clear c15
    try clear c16
    try clear c20
    try clear hcz12_0
    try clear hcz12_1
    try clear hcz12_2
    try clear hcz17_0
    try clear hcz17_1
    try clear hcz17_2
    try clear hcz18_0
    try clear hcz18_1
    try clear hcz18_2
    try clear hcz21_0
    try clear hcz21_1
    try clear hcz21_2
    try clear hcz22_0
    try clear hcz22_1
    try clear hcz22_2
    try clear hcz7_0
    try clear hcz7_1
    try clear hcz7_2
    try clear hfz12_0
    try clear hfz12_1
    try clear hfz12_2
    try clear hfz17_0
    try clear hfz17_1
    try clear hfz17_2
    try clear hfz18_0
    try clear hfz18_1
    try clear hfz18_2
    try clear hfz21_0
    try clear hfz21_1
    try clear hfz21_2
    try clear hfz22_0
    try clear hfz22_1
    try clear hfz22_2
    try clear hfz7_0
    try clear hfz7_1
    try clear hfz7_2
    obtain ⟨kq, x29_3, rfl, HA, HJ3, HO_612002, HO_619002, BK611, BK618, HB⟩ := hcut
    cases kq with
    | zero => exact absurd HA.out (by simp [laws_FnExactNewStore.j0])
    | succ kj3 =>
      have H := HA.out
      clear HA
      simp only [laws_FnExactNewStore.j0] at H
      by_cases c24 : x29_3 = true
      · subst c24
        have H1 : (some false) = some r := by rw [if_pos rfl] at H; exact H
        clear H
        have H := H1
        clear H1
        exact absurd H (by rw [hr_.out]; simp)
      · replace c24 := Bool.eq_false_iff.mpr c24
        subst c24
        have H1 : ((laws_markStore.f kj3 t612 t613 t614 1).bind fun t620 => ((laws_heldStore.f kj3 t612 t613 t614 1).bind fun t621 => (if t621 < 0 then (some false) else (if t621 = t620 then ((impl_NewStore.f a0).bind fun bt622 => ((laws_eqStore.f kj3 bt622.1 bt622.2.1 bt622.2.2.1 t605 t606 t607).bind fun t629 => (if t629 = true then (laws_FnExactNewStore.j1 kj3 t620 (bt622.2.2.2 != t610) t612 t613 t614) else (laws_FnExactNewStore.j1 kj3 t620 true t612 t613 t614)))) else (some false))))) = some r := by rw [if_neg (show ¬ (false = true) by decide)] at H; exact H
        clear H
        have H := H1
        clear H1
        replace H := Option.bind_eq_some_iff.mp H
        obtain ⟨t620, A250, H⟩ := H
        replace H : ((laws_heldStore.f kj3 t612 t613 t614 1).bind fun t621 => (if t621 < 0 then (some false) else (if t621 = t620 then ((impl_NewStore.f a0).bind fun bt622 => ((laws_eqStore.f kj3 bt622.1 bt622.2.1 bt622.2.2.1 t605 t606 t607).bind fun t629 => (if t629 = true then (laws_FnExactNewStore.j1 kj3 t620 (bt622.2.2.2 != t610) t612 t613 t614) else (laws_FnExactNewStore.j1 kj3 t620 true t612 t613 t614)))) else (some false)))) = some r := H
        have A25 := Aside0.mk A250
        clear A250
        replace H := Option.bind_eq_some_iff.mp H
        obtain ⟨t621, A260, H⟩ := H
        replace H : (if t621 < 0 then (some false) else (if t621 = t620 then ((impl_NewStore.f a0).bind fun bt622 => ((laws_eqStore.f kj3 bt622.1 bt622.2.1 bt622.2.2.1 t605 t606 t607).bind fun t629 => (if t629 = true then (laws_FnExactNewStore.j1 kj3 t620 (bt622.2.2.2 != t610) t612 t613 t614) else (laws_FnExactNewStore.j1 kj3 t620 true t612 t613 t614)))) else (some false))) = some r := H
        have A26 := Aside0.mk A260
        clear A260
        by_cases c27 : t621 < 0
        · rw [if_pos c27] at H
          have c27b0 : decide (t621 < 0) = true := decide_eq_true c27
          clear c27
          exact absurd H (by rw [hr_.out]; simp)
        · rw [if_neg c27] at H
          have c27b0 : decide (t621 < 0) = false := decide_eq_false c27
          clear c27
          by_cases c28 : t621 = t620
          · rw [if_pos c28] at H
            have c28b0 : (t621 == t620) = true := beq_iff_eq.mpr c28
            have c28b1 : (t621 != t620) = false := bne_eq_false_iff_eq.mpr c28
            clear c28
            replace H := Option.bind_eq_some_iff.mp H
            obtain ⟨⟨t622, t623, t624, t627⟩, A290, H⟩ := H
            replace H : ((laws_eqStore.f kj3 t622 t623 t624 t605 t606 t607).bind fun t629 => (if t629 = true then (laws_FnExactNewStore.j1 kj3 t620 (t627 != t610) t612 t613 t614) else (laws_FnExactNewStore.j1 kj3 t620 true t612 t613 t614))) = some r := H
            have A29 := Aside0.mk A290
            clear A290
            have HC30 := Aside0.mk H
            clear H
            have hnb31 := NB618_611.out
            have hnc31 := NB611_618.out
            have hcz32_0 : wc.cell? ⟨gb618, 0, none⟩ = some (.int .i64 t612) := (blk_cell BK618.out 0).trans rfl
            have hcz32_1 : wc.cell? ⟨gb618, 1, none⟩ = some (.int .i64 t613) := (blk_cell BK618.out 1).trans rfl
            have hcz32_2 : wc.cell? ⟨gb618, 2, none⟩ = some (.slice Ao13 t614.length co13) := (blk_cell BK618.out 2).trans rfl
            have hfz32_0 := blk_frozen BK618.out 0
            have hfz32_1 := blk_frozen BK618.out 1
            have hfz32_2 := blk_frozen BK618.out 2
            go_upto_region 14 with (first | ((with_reducible refine gate_callee (f := 44) rfl ?_); refine goesL_ (some 32) rfl rfl Try.func44 (by kernel_rfl) rfl #[.agg #[.int .i64 t612, .int .i64 t613, .slice Ao13 t614.length co13], .int .i64 1] rfl (by (try simp only [List.map_toArray, List.map_cons, List.map_nil]); first | done | rfl | (simp only [List.length_drop, List.length_take]; rfl)) ?_; (with_reducible refine (laws_markStore.calls kj3 t612 t613 _ _ t614 1 t620 _ ?side1 ?side2 A25.out).mono ?_); (case side1 => repeat (first | exact (Kd.S_reads' HO_619002.out).2.2 | (with_reducible refine Kd.C_alloc ?_ _) | (with_reducible refine Kd.C_drewN ?_ _) | (with_reducible refine Kd.C_drew ?_))); (case side2 => exact (Kd.S_reads' HO_619002.out).2.1); rintro e w33 ⟨rfl, hb⟩; refine ⟨_, rfl, ?_⟩; have n0_ := Aside0.mk (Kd.S_below (by (with_reducible repeat (first | apply Kd.S_alloc | apply Kd.S_drewN | apply Kd.S_drew)); exact HO_612002.out) hb); have n1_ := Aside0.mk (Kd.S_below (by (with_reducible repeat (first | apply Kd.S_alloc | apply Kd.S_drewN | apply Kd.S_drew)); exact HO_619002.out) hb); have n2_ := Aside0.mk (blk_below (g := gb611) (o := .cells #[.int .i64 t605, .int .i64 t606, .slice Ao8 t607.length co8] 61 (0, 0)) (by (with_reducible repeat (first | refine blk_drewN ?_ _ | refine blk_drew ?_ | refine blk_alloc ?_ _)); exact BK611.out) hb); have n3_ := Aside0.mk (blk_below (g := gb618) (o := .cells #[.int .i64 t612, .int .i64 t613, .slice Ao13 t614.length co13] 61 (0, 0)) (by (with_reducible repeat (first | refine blk_drewN ?_ _ | refine blk_drew ?_ | refine blk_alloc ?_ _)); exact BK618.out) hb); have n4_ := Aside0.mk (below_step (by repeat (first | (with_reducible first | exact HB.out | apply below_alloc | apply pw_below_drewN | apply below_drew1 | refine below_set ?_ GE611.out | refine below_set ?_ GE618.out) | exact HB.out)) hb); clear HO_612002; clear HO_619002; clear BK611; clear BK618; clear HB; have HO_612002 := n0_; have HO_619002 := n1_; have BK611 := n2_; have BK618 := n3_; have HB := n4_; clear n0_ n1_ n2_ n3_ n4_; (try clear hb); (try clear hb2); (try clear hk); (try clear hi); have hcz34_0 : w33.cell? ⟨gb618, 0, none⟩ = some (.int .i64 t612) := (blk_cell BK618.out 0).trans rfl; have hcz34_1 : w33.cell? ⟨gb618, 1, none⟩ = some (.int .i64 t613) := (blk_cell BK618.out 1).trans rfl; have hcz34_2 : w33.cell? ⟨gb618, 2, none⟩ = some (.slice Ao13 t614.length co13) := (blk_cell BK618.out 2).trans rfl; have hfz34_0 := blk_frozen BK618.out 0; have hfz34_1 := blk_frozen BK618.out 1; have hfz34_2 := blk_frozen BK618.out 2) | ((with_reducible refine gate_callee (f := 45) rfl ?_); refine goesL_ (some 35) rfl rfl Try.func45 (by kernel_rfl) rfl #[.agg #[.int .i64 t612, .int .i64 t613, .slice Ao13 t614.length co13], .int .i64 1] rfl (by (try simp only [List.map_toArray, List.map_cons, List.map_nil]); first | done | rfl | (simp only [List.length_drop, List.length_take]; rfl)) ?_; (with_reducible refine (laws_heldStore.calls kj3 t612 t613 _ _ t614 1 t621 _ ?side1 ?side2 A26.out).mono ?_); (case side1 => repeat (first | exact (Kd.S_reads' HO_619002.out).2.2 | (with_reducible refine Kd.C_alloc ?_ _) | (with_reducible refine Kd.C_drewN ?_ _) | (with_reducible refine Kd.C_drew ?_))); (case side2 => exact (Kd.S_reads' HO_619002.out).2.1); rintro e w35 ⟨rfl, hb⟩; refine ⟨_, rfl, ?_⟩; have n0_ := Aside0.mk (Kd.S_below (by (with_reducible repeat (first | apply Kd.S_alloc | apply Kd.S_drewN | apply Kd.S_drew)); exact HO_612002.out) hb); have n1_ := Aside0.mk (Kd.S_below (by (with_reducible repeat (first | apply Kd.S_alloc | apply Kd.S_drewN | apply Kd.S_drew)); exact HO_619002.out) hb); have n2_ := Aside0.mk (blk_below (g := gb611) (o := .cells #[.int .i64 t605, .int .i64 t606, .slice Ao8 t607.length co8] 61 (0, 0)) (by (with_reducible repeat (first | refine blk_drewN ?_ _ | refine blk_drew ?_ | refine blk_alloc ?_ _)); exact BK611.out) hb); have n3_ := Aside0.mk (blk_below (g := gb618) (o := .cells #[.int .i64 t612, .int .i64 t613, .slice Ao13 t614.length co13] 61 (0, 0)) (by (with_reducible repeat (first | refine blk_drewN ?_ _ | refine blk_drew ?_ | refine blk_alloc ?_ _)); exact BK618.out) hb); have n4_ := Aside0.mk (below_step (by repeat (first | (with_reducible first | exact HB.out | apply below_alloc | apply pw_below_drewN | apply below_drew1 | refine below_set ?_ GE611.out | refine below_set ?_ GE618.out) | exact HB.out)) hb); clear HO_612002; clear HO_619002; clear BK611; clear BK618; clear HB; have HO_612002 := n0_; have HO_619002 := n1_; have BK611 := n2_; have BK618 := n3_; have HB := n4_; clear n0_ n1_ n2_ n3_ n4_; (try clear hb); (try clear hb2); (try clear hk); (try clear hi)) | ((with_reducible refine gate_callee (f := 42) rfl ?_); refine goesL_ (some 43) rfl rfl Try.func42 (by kernel_rfl) rfl #[.int .i64 a0] rfl (by (try simp only [List.map_toArray, List.map_cons, List.map_nil]); first | done | rfl | (simp only [List.length_drop, List.length_take]; rfl)) ?_; (with_reducible refine (impl_NewStore.calls a0 t622 t623 t624 t627 _ A29.out).mono ?_); rintro e w36 ⟨v625, rfl, ho0, hb⟩; refine ⟨_, rfl, ?_⟩; have n0_ := Aside0.mk (Kd.S_elder' (by (with_reducible repeat (first | apply Kd.S_alloc | apply Kd.S_drewN | apply Kd.S_drew)); exact HO_612002.out) (Kd.S_base ho0) hb); have n1_ := Aside0.mk (Kd.S_elder' (by (with_reducible repeat (first | apply Kd.S_alloc | apply Kd.S_drewN | apply Kd.S_drew)); exact HO_619002.out) (Kd.S_base ho0) hb); have n2_ := Aside0.mk (Kd.S_lower (Kd.S_new' (Kd.S_new' ho0 (Kd.S_lt (by (with_reducible repeat (first | apply Kd.S_alloc | apply Kd.S_drewN | apply Kd.S_drew)); exact HO_612002.out))) (Kd.S_lt (by (with_reducible repeat (first | apply Kd.S_alloc | apply Kd.S_drewN | apply Kd.S_drew)); exact HO_619002.out))) (below_size (by repeat (first | (with_reducible first | exact HB.out | apply below_alloc | apply pw_below_drewN | apply below_drew1 | refine below_set ?_ GE611.out | refine below_set ?_ GE618.out) | exact HB.out)))); have n3_ := Aside0.mk (blk_below (g := gb611) (o := .cells #[.int .i64 t605, .int .i64 t606, .slice Ao8 t607.length co8] 61 (0, 0)) (by (with_reducible repeat (first | refine blk_drewN ?_ _ | refine blk_drew ?_ | refine blk_alloc ?_ _)); exact BK611.out) hb); have n4_ := Aside0.mk (blk_below (g := gb618) (o := .cells #[.int .i64 t612, .int .i64 t613, .slice Ao13 t614.length co13] 61 (0, 0)) (by (with_reducible repeat (first | refine blk_drewN ?_ _ | refine blk_drew ?_ | refine blk_alloc ?_ _)); exact BK618.out) hb); have n5_ := Aside0.mk (below_step (by repeat (first | (with_reducible first | exact HB.out | apply below_alloc | apply pw_below_drewN | apply below_drew1 | refine below_set ?_ GE611.out | refine below_set ?_ GE618.out) | exact HB.out)) hb); clear HO_612002; clear HO_619002; clear BK611; clear BK618; clear HB; have HO_612002 := n0_; have HO_619002 := n1_; have HO626 := n2_; have BK611 := n3_; have BK618 := n4_; have HB := n5_; clear n0_ n1_ n2_ n3_ n4_ n5_; (try clear hb); (try clear hb2); (try clear hk); (try clear hi); (try clear ho0)) | ((with_reducible refine gate_dst (N := 9) rfl ?_); refine box_event ?hg (N := 9) ?hd (cs := #[.int .i64 0, .int .i64 0, .slice none 0 0]) (t := 61) ?hr ?_; (case hd => rfl); (case hg => rfl); (case hr => first | (go_simp; done) | (go_simp; rfl)); intro gb628 hg w37 hbox hb; have n0_ := Aside0.mk (Kd.S_below (by (with_reducible repeat (first | apply Kd.S_alloc | apply Kd.S_drewN | apply Kd.S_drew)); exact HO_612002.out) hb); have n1_ := Aside0.mk (Kd.S_below (by (with_reducible repeat (first | apply Kd.S_alloc | apply Kd.S_drewN | apply Kd.S_drew)); exact HO_619002.out) hb); have n2_ := Aside0.mk (Kd.S_below (by (with_reducible repeat (first | apply Kd.S_alloc | apply Kd.S_drewN | apply Kd.S_drew)); exact HO626.out) hb); have n3_ := Aside0.mk (blk_below (g := gb611) (o := .cells #[.int .i64 t605, .int .i64 t606, .slice Ao8 t607.length co8] 61 (0, 0)) (by (with_reducible repeat (first | refine blk_drewN ?_ _ | refine blk_drew ?_ | refine blk_alloc ?_ _)); exact BK611.out) hb); have n4_ := Aside0.mk (blk_below (g := gb618) (o := .cells #[.int .i64 t612, .int .i64 t613, .slice Ao13 t614.length co13] 61 (0, 0)) (by (with_reducible repeat (first | refine blk_drewN ?_ _ | refine blk_drew ?_ | refine blk_alloc ?_ _)); exact BK618.out) hb); have n5_ := Aside0.mk (below_step (by repeat (first | (with_reducible first | exact HB.out | apply below_alloc | apply pw_below_drewN | apply below_drew1 | refine below_set ?_ GE611.out | refine below_set ?_ GE618.out) | exact HB.out)) hb); have n6_ := Aside0.mk (hbox); have n7_ := Aside0.mk ((by rw [hg]; exact (below_size (by repeat (first | (with_reducible first | exact HB.out | apply below_alloc | apply pw_below_drewN | apply below_drew1 | refine below_set ?_ GE611.out | refine below_set ?_ GE618.out) | exact HB.out))) : w.heap.size ≤ gb628)); have n8_ := Aside0.mk ((by rw [hg]; exact (below_size (by repeat (first | (with_reducible first | exact HB.out | apply below_alloc | apply pw_below_drewN | apply below_drew1 | refine below_set ?_ GE611.out | refine below_set ?_ GE618.out) | exact HB.out))) : w.heap.size ≤ gb628)); have n9_ := Aside0.mk ((by rw [hg]; exact Nat.ne_of_lt (blk_lt (g := gb611) (o := .cells #[.int .i64 t605, .int .i64 t606, .slice Ao8 t607.length co8] 61 (0, 0)) (by (with_reducible repeat (first | refine blk_drewN ?_ _ | refine blk_drew ?_ | refine blk_alloc ?_ _)); exact BK611.out)) : gb611 ≠ gb628)); have n10_ := Aside0.mk ((by rw [hg]; exact Nat.ne_of_gt (blk_lt (g := gb611) (o := .cells #[.int .i64 t605, .int .i64 t606, .slice Ao8 t607.length co8] 61 (0, 0)) (by (with_reducible repeat (first | refine blk_drewN ?_ _ | refine blk_drew ?_ | refine blk_alloc ?_ _)); exact BK611.out)) : gb628 ≠ gb611)); have n11_ := Aside0.mk ((by rw [hg]; exact Nat.ne_of_lt (blk_lt (g := gb618) (o := .cells #[.int .i64 t612, .int .i64 t613, .slice Ao13 t614.length co13] 61 (0, 0)) (by (with_reducible repeat (first | refine blk_drewN ?_ _ | refine blk_drew ?_ | refine blk_alloc ?_ _)); exact BK618.out)) : gb618 ≠ gb628)); have n12_ := Aside0.mk ((by rw [hg]; exact Nat.ne_of_gt (blk_lt (g := gb618) (o := .cells #[.int .i64 t612, .int .i64 t613, .slice Ao13 t614.length co13] 61 (0, 0)) (by (with_reducible repeat (first | refine blk_drewN ?_ _ | refine blk_drew ?_ | refine blk_alloc ?_ _)); exact BK618.out)) : gb628 ≠ gb618)); clear HO_612002; clear HO_619002; clear HO626; clear BK611; clear BK618; clear HB; have HO_612002 := n0_; have HO_619002 := n1_; have HO626 := n2_; have BK611 := n3_; have BK618 := n4_; have HB := n5_; have BK628 := n6_; have GW628 := n7_; have GE628 := n8_; have NB611_628 := n9_; have NB628_611 := n10_; have NB618_628 := n11_; have NB628_618 := n12_; clear n0_ n1_ n2_ n3_ n4_ n5_ n6_ n7_ n8_ n9_ n10_ n11_ n12_; clear hb hbox hg; have hnb38 := NB628_611.out; have hnc38 := NB611_628.out; have hnb39 := NB628_618.out; have hnc39 := NB618_628.out; have hcz40_0 : w37.cell? ⟨gb628, 0, none⟩ = some (.int .i64 0) := (blk_cell BK628.out 0).trans rfl; have hcz40_1 : w37.cell? ⟨gb628, 1, none⟩ = some (.int .i64 0) := (blk_cell BK628.out 1).trans rfl; have hcz40_2 : w37.cell? ⟨gb628, 2, none⟩ = some (.slice none 0 0) := (blk_cell BK628.out 2).trans rfl; have hfz40_0 := blk_frozen BK628.out 0; have hfz40_1 := blk_frozen BK628.out 1; have hfz40_2 := blk_frozen BK628.out 2; obtain ⟨Ao41, co41, eo41⟩ := Kd.S_slice HO626.out; subst eo41))
            (try simp only [Act.put, List.setIfInBounds_toArray, List.set_cons_zero, List.set_cons_succ])
            go_cut [54] (fun v54 wc => ∃ (kq : Nat) (x54_29 : Bool), v54 = .bool x54_29 ∧ Aside0 (laws_FnExactNewStore.j1 kq t620 x54_29 t612 t613 t614 = some r) ∧ Aside0 (kq ≤ kj3) ∧ Aside0 (Kd.S k107 107 wc w.heap.size (fun k_ => some k_ ≠ ((.slice Ao13 t614.length co13) : Value).ownBlock ∧ some k_ ≠ ((.slice Ao41 t624.length co41) : Value).ownBlock) (.slice Ao8 t607.length co8) t607) ∧ Aside0 (Kd.S k107 107 wc w.heap.size (fun k_ => some k_ ≠ ((.slice Ao8 t607.length co8) : Value).ownBlock ∧ some k_ ≠ ((.slice Ao41 t624.length co41) : Value).ownBlock) (.slice Ao13 t614.length co13) t614) ∧ Aside0 (Kd.S k107 107 wc w.heap.size (fun k_ => some k_ ≠ ((.slice Ao8 t607.length co8) : Value).ownBlock ∧ some k_ ≠ ((.slice Ao13 t614.length co13) : Value).ownBlock) (.slice Ao41 t624.length co41) t624) ∧ Aside0 (wc.heap[gb611]? = some (.cells #[.int .i64 t605, .int .i64 t606, (.slice Ao8 t607.length co8)] 61 (0, 0))) ∧ Aside0 (wc.heap[gb618]? = some (.cells #[.int .i64 t612, .int .i64 t613, (.slice Ao13 t614.length co13)] 61 (0, 0))) ∧ Aside0 (wc.heap[gb628]? = some (.cells #[.int .i64 t622, .int .i64 t623, (.slice Ao41 t624.length co41)] 61 (0, 0))) ∧ Aside0 (Below w.heap.size w wc))
            case first =>
              have H := HC30.out
              clear HC30
              replace H := Option.bind_eq_some_iff.mp H
              obtain ⟨t629, A420, H⟩ := H
              replace H : (if t629 = true then (laws_FnExactNewStore.j1 kj3 t620 (t627 != t610) t612 t613 t614) else (laws_FnExactNewStore.j1 kj3 t620 true t612 t613 t614)) = some r := H
              have A42 := Aside0.mk A420
              clear A420
              by_cases c43 : t629 = true
              · subst c43
                have H1 : (laws_FnExactNewStore.j1 kj3 t620 (t627 != t610) t612 t613 t614) = some r := by rw [if_pos rfl] at H; exact H
                clear H
                have H := H1
                clear H1
                have H' := Aside0.mk H
                clear H
                have hnb44 := NB628_611.out
                have hnc44 := NB611_628.out
                have hnb45 := NB628_618.out
                have hnc45 := NB618_628.out
                have hcz46_0 : w37.cell? ⟨gb628, 0, none⟩ = some (.int .i64 0) := (blk_cell BK628.out 0).trans rfl
                have hcz46_1 : w37.cell? ⟨gb628, 1, none⟩ = some (.int .i64 0) := (blk_cell BK628.out 1).trans rfl
                have hcz46_2 : w37.cell? ⟨gb628, 2, none⟩ = some (.slice none 0 0) := (blk_cell BK628.out 2).trans rfl
                have hfz46_0 := blk_frozen BK628.out 0
                have hfz46_1 := blk_frozen BK628.out 1
                have hfz46_2 := blk_frozen BK628.out 2
                have hnb47 := NB611_618.out
                have hnc47 := NB618_611.out
                have hcz48_0 : w37.cell? ⟨gb611, 0, none⟩ = some (.int .i64 t605) := (blk_cell BK611.out 0).trans rfl
                have hcz48_1 : w37.cell? ⟨gb611, 1, none⟩ = some (.int .i64 t606) := (blk_cell BK611.out 1).trans rfl
                have hcz48_2 : w37.cell? ⟨gb611, 2, none⟩ = some (.slice Ao8 t607.length co8) := (blk_cell BK611.out 2).trans rfl
                have hfz48_0 := blk_frozen BK611.out 0
                have hfz48_1 := blk_frozen BK611.out 1
                have hfz48_2 := blk_frozen BK611.out 2
                go_wp2_with (first | ((with_reducible refine gate_callee (f := 43) rfl ?_); refine goesL_ (some 48) rfl rfl Try.func43 (by kernel_rfl) rfl #[.agg #[.int .i64 t622, .int .i64 t623, .slice Ao41 t624.length co41], .agg #[.int .i64 t605, .int .i64 t606, .slice Ao8 t607.length co8]] rfl (by (try simp only [List.map_toArray, List.map_cons, List.map_nil]); first | done | rfl | (simp only [List.length_drop, List.length_take]; rfl)) ?_; (with_reducible refine (laws_eqStore.calls kj3 t622 t623 _ _ t624 t605 t606 _ _ t607 true _ ?side1 ?side2 ?side3 ?side4 A42.out).mono ?_); (case side1 => refine (Kd.S_reads' (e := 107) (base := w.heap.size) (ok := fun k_ => ((True ∧ some k_ ≠ (.slice Ao8 t607.length co8 : Value).ownBlock) ∧ some k_ ≠ (.slice Ao13 t614.length co13 : Value).ownBlock)) (n := t624.length) (c := co41) ?_).2.2; exact (by (with_reducible repeat (first | apply Kd.S_alloc | apply Kd.S_drewN | apply Kd.S_drew)); exact (Kd.S_mono (Kd.S_far (p := ⟨gb628, 2, none⟩) (Kd.S_far (p := ⟨gb628, 1, none⟩) (Kd.S_far (p := ⟨gb628, 0, none⟩) (Kd.S_types HO626.out BK628.out (by decide)) (fun _ hk => hk.2) (.int .i64 t622)) (fun _ hk => hk.2) (.int .i64 t623)) (fun _ hk => hk.2) (.slice Ao41 t624.length co41)) (fun _ h_ => h_.1)))); (case side2 => exact (Kd.S_reads' HO626.out).2.1); (case side3 => refine (Kd.S_reads' (e := 107) (base := w.heap.size) (ok := fun k_ => (some k_ ≠ (.slice Ao13 t614.length co13 : Value).ownBlock ∧ some k_ ≠ (.slice Ao41 t624.length co41 : Value).ownBlock)) (n := t607.length) (c := co8) ?_).2.2; exact (by (with_reducible repeat (first | apply Kd.S_alloc | apply Kd.S_drewN | apply Kd.S_drew)); exact (Kd.S_mono (Kd.S_far (p := ⟨gb628, 2, none⟩) (Kd.S_far (p := ⟨gb628, 1, none⟩) (Kd.S_far (p := ⟨gb628, 0, none⟩) (Kd.S_types HO_612002.out BK628.out (by decide)) (fun _ hk => hk.2) (.int .i64 t622)) (fun _ hk => hk.2) (.int .i64 t623)) (fun _ hk => hk.2) (.slice Ao41 t624.length co41)) (fun _ h_ => h_.1)))); (case side4 => exact (Kd.S_reads' HO_612002.out).2.1); rintro e w49 ⟨rfl, hb⟩; refine ⟨_, rfl, ?_⟩; have n0_ := Aside0.mk (Kd.S_below (by (with_reducible repeat (first | apply Kd.S_alloc | apply Kd.S_drewN | apply Kd.S_drew)); exact (Kd.S_mono (Kd.S_far (p := ⟨gb628, 2, none⟩) (Kd.S_far (p := ⟨gb628, 1, none⟩) (Kd.S_far (p := ⟨gb628, 0, none⟩) (Kd.S_types HO_612002.out BK628.out (by decide)) (fun _ hk => hk.2) (.int .i64 t622)) (fun _ hk => hk.2) (.int .i64 t623)) (fun _ hk => hk.2) (.slice Ao41 t624.length co41)) (fun _ h_ => h_.1))) hb); have n1_ := Aside0.mk (Kd.S_below (by (with_reducible repeat (first | apply Kd.S_alloc | apply Kd.S_drewN | apply Kd.S_drew)); exact (Kd.S_mono (Kd.S_far (p := ⟨gb628, 2, none⟩) (Kd.S_far (p := ⟨gb628, 1, none⟩) (Kd.S_far (p := ⟨gb628, 0, none⟩) (Kd.S_types HO_619002.out BK628.out (by decide)) (fun _ hk => hk.2) (.int .i64 t622)) (fun _ hk => hk.2) (.int .i64 t623)) (fun _ hk => hk.2) (.slice Ao41 t624.length co41)) (fun _ h_ => h_.1))) hb); have n2_ := Aside0.mk (Kd.S_below (by (with_reducible repeat (first | apply Kd.S_alloc | apply Kd.S_drewN | apply Kd.S_drew)); exact (Kd.S_mono (Kd.S_far (p := ⟨gb628, 2, none⟩) (Kd.S_far (p := ⟨gb628, 1, none⟩) (Kd.S_far (p := ⟨gb628, 0, none⟩) (Kd.S_types HO626.out BK628.out (by decide)) (fun _ hk => hk.2) (.int .i64 t622)) (fun _ hk => hk.2) (.int .i64 t623)) (fun _ hk => hk.2) (.slice Ao41 t624.length co41)) (fun _ h_ => h_.1))) hb); have n3_ := Aside0.mk (blk_below (g := gb611) (o := .cells #[.int .i64 t605, .int .i64 t606, .slice Ao8 t607.length co8] 61 (0, 0)) (by (with_reducible repeat (first | refine blk_drewN ?_ _ | refine blk_drew ?_ | refine blk_alloc ?_ _)); refine blk_far ?_ NB611_628.out _; (with_reducible repeat (first | refine blk_drewN ?_ _ | refine blk_drew ?_ | refine blk_alloc ?_ _)); refine blk_far ?_ NB611_628.out _; (with_reducible repeat (first | refine blk_drewN ?_ _ | refine blk_drew ?_ | refine blk_alloc ?_ _)); refine blk_far ?_ NB611_628.out _; (with_reducible repeat (first | refine blk_drewN ?_ _ | refine blk_drew ?_ | refine blk_alloc ?_ _)); exact BK611.out) hb); have n4_ := Aside0.mk (blk_below (g := gb618) (o := .cells #[.int .i64 t612, .int .i64 t613, .slice Ao13 t614.length co13] 61 (0, 0)) (by (with_reducible repeat (first | refine blk_drewN ?_ _ | refine blk_drew ?_ | refine blk_alloc ?_ _)); refine blk_far ?_ NB618_628.out _; (with_reducible repeat (first | refine blk_drewN ?_ _ | refine blk_drew ?_ | refine blk_alloc ?_ _)); refine blk_far ?_ NB618_628.out _; (with_reducible repeat (first | refine blk_drewN ?_ _ | refine blk_drew ?_ | refine blk_alloc ?_ _)); refine blk_far ?_ NB618_628.out _; (with_reducible repeat (first | refine blk_drewN ?_ _ | refine blk_drew ?_ | refine blk_alloc ?_ _)); exact BK618.out) hb); have n5_ := Aside0.mk (blk_below (g := gb628) (o := .cells #[.int .i64 t622, .int .i64 t623, .slice Ao41 t624.length co41] 61 (0, 0)) (by (with_reducible repeat (first | refine blk_drewN ?_ _ | refine blk_drew ?_ | refine blk_alloc ?_ _)); refine blk_put (cs := #[.int .i64 t622, .int .i64 t623, .slice none 0 0]) ?_ 2 _ rfl; (with_reducible repeat (first | refine blk_drewN ?_ _ | refine blk_drew ?_ | refine blk_alloc ?_ _)); refine blk_put (cs := #[.int .i64 t622, .int .i64 0, .slice none 0 0]) ?_ 1 _ rfl; (with_reducible repeat (first | refine blk_drewN ?_ _ | refine blk_drew ?_ | refine blk_alloc ?_ _)); refine blk_put (cs := #[.int .i64 0, .int .i64 0, .slice none 0 0]) ?_ 0 _ rfl; (with_reducible repeat (first | refine blk_drewN ?_ _ | refine blk_drew ?_ | refine blk_alloc ?_ _)); exact BK628.out) hb); have n6_ := Aside0.mk (below_step (by repeat (first | (with_reducible first | exact HB.out | apply below_alloc | apply pw_below_drewN | apply below_drew1 | refine below_set ?_ GE611.out | refine below_set ?_ GE618.out | refine below_set ?_ GE628.out) | exact HB.out)) hb); clear HO_612002; clear HO_619002; clear HO626; clear BK611; clear BK618; clear BK628; clear HB; have HO_612002 := n0_; have HO_619002 := n1_; have HO626 := n2_; have BK611 := n3_; have BK618 := n4_; have BK628 := n5_; have HB := n6_; clear n0_ n1_ n2_ n3_ n4_ n5_ n6_; (try clear hb); (try clear hb2); (try clear hk); (try clear hi)))
                go_meet
                case rel => exact ⟨_, ((t627 != t610)), (by first | rfl | (simp; done) | (simp [*]; done)), H', ⟨by have := HJ3.out; first | omega | exact Nat.le_refl _⟩, ⟨by (with_reducible repeat (first | apply Kd.S_alloc | apply Kd.S_drewN | apply Kd.S_drew)); exact HO_612002.out⟩, ⟨by (with_reducible repeat (first | apply Kd.S_alloc | apply Kd.S_drewN | apply Kd.S_drew)); exact HO_619002.out⟩, ⟨by (with_reducible repeat (first | apply Kd.S_alloc | apply Kd.S_drewN | apply Kd.S_drew)); exact Kd.S_mono HO626.out (fun _ hk => ⟨hk.1.2, hk.2⟩)⟩, ⟨by (with_reducible repeat (first | refine blk_drewN ?_ _ | refine blk_drew ?_ | refine blk_alloc ?_ _)); exact BK611.out⟩, ⟨by (with_reducible repeat (first | refine blk_drewN ?_ _ | refine blk_drew ?_ | refine blk_alloc ?_ _)); exact BK618.out⟩, ⟨by (with_reducible repeat (first | refine blk_drewN ?_ _ | refine blk_drew ?_ | refine blk_alloc ?_ _)); exact BK628.out⟩, ⟨by repeat (first | (with_reducible first | exact HB.out | apply below_alloc | apply pw_below_drewN | apply below_drew1 | refine below_set ?_ GE611.out | refine below_set ?_ GE618.out | refine below_set ?_ GE628.out) | exact HB.out)⟩⟩
              · replace c43 := Bool.eq_false_iff.mpr c43
                subst c43
                have H1 : (laws_FnExactNewStore.j1 kj3 t620 true t612 t613 t614) = some r := by rw [if_neg (show ¬ (false = true) by decide)] at H; exact H
                clear H
                have H := H1
                clear H1
                have H' := Aside0.mk H
                clear H
                have hnb50 := NB628_611.out
                have hnc50 := NB611_628.out
                have hnb51 := NB628_618.out
                have hnc51 := NB618_628.out
                have hcz52_0 : w37.cell? ⟨gb628, 0, none⟩ = some (.int .i64 0) := (blk_cell BK628.out 0).trans rfl
                have hcz52_1 : w37.cell? ⟨gb628, 1, none⟩ = some (.int .i64 0) := (blk_cell BK628.out 1).trans rfl
                have hcz52_2 : w37.cell? ⟨gb628, 2, none⟩ = some (.slice none 0 0) := (blk_cell BK628.out 2).trans rfl
                have hfz52_0 := blk_frozen BK628.out 0
                have hfz52_1 := blk_frozen BK628.out 1
                have hfz52_2 := blk_frozen BK628.out 2
                have hnb53 := NB611_618.out
                have hnc53 := NB618_611.out
                have hcz54_0 : w37.cell? ⟨gb611, 0, none⟩ = some (.int .i64 t605) := (blk_cell BK611.out 0).trans rfl
                have hcz54_1 : w37.cell? ⟨gb611, 1, none⟩ = some (.int .i64 t606) := (blk_cell BK611.out 1).trans rfl
                have hcz54_2 : w37.cell? ⟨gb611, 2, none⟩ = some (.slice Ao8 t607.length co8) := (blk_cell BK611.out 2).trans rfl
                have hfz54_0 := blk_frozen BK611.out 0
                have hfz54_1 := blk_frozen BK611.out 1
                have hfz54_2 := blk_frozen BK611.out 2
                go_wp2_with (first | ((with_reducible refine gate_callee (f := 43) rfl ?_); refine goesL_ (some 48) rfl rfl Try.func43 (by kernel_rfl) rfl #[.agg #[.int .i64 t622, .int .i64 t623, .slice Ao41 t624.length co41], .agg #[.int .i64 t605, .int .i64 t606, .slice Ao8 t607.length co8]] rfl (by (try simp only [List.map_toArray, List.map_cons, List.map_nil]); first | done | rfl | (simp only [List.length_drop, List.length_take]; rfl)) ?_; (with_reducible refine (laws_eqStore.calls kj3 t622 t623 _ _ t624 t605 t606 _ _ t607 false _ ?side1 ?side2 ?side3 ?side4 A42.out).mono ?_); (case side1 => refine (Kd.S_reads' (e := 107) (base := w.heap.size) (ok := fun k_ => ((True ∧ some k_ ≠ (.slice Ao8 t607.length co8 : Value).ownBlock) ∧ some k_ ≠ (.slice Ao13 t614.length co13 : Value).ownBlock)) (n := t624.length) (c := co41) ?_).2.2; exact (by (with_reducible repeat (first | apply Kd.S_alloc | apply Kd.S_drewN | apply Kd.S_drew)); exact (Kd.S_mono (Kd.S_far (p := ⟨gb628, 2, none⟩) (Kd.S_far (p := ⟨gb628, 1, none⟩) (Kd.S_far (p := ⟨gb628, 0, none⟩) (Kd.S_types HO626.out BK628.out (by decide)) (fun _ hk => hk.2) (.int .i64 t622)) (fun _ hk => hk.2) (.int .i64 t623)) (fun _ hk => hk.2) (.slice Ao41 t624.length co41)) (fun _ h_ => h_.1)))); (case side2 => exact (Kd.S_reads' HO626.out).2.1); (case side3 => refine (Kd.S_reads' (e := 107) (base := w.heap.size) (ok := fun k_ => (some k_ ≠ (.slice Ao13 t614.length co13 : Value).ownBlock ∧ some k_ ≠ (.slice Ao41 t624.length co41 : Value).ownBlock)) (n := t607.length) (c := co8) ?_).2.2; exact (by (with_reducible repeat (first | apply Kd.S_alloc | apply Kd.S_drewN | apply Kd.S_drew)); exact (Kd.S_mono (Kd.S_far (p := ⟨gb628, 2, none⟩) (Kd.S_far (p := ⟨gb628, 1, none⟩) (Kd.S_far (p := ⟨gb628, 0, none⟩) (Kd.S_types HO_612002.out BK628.out (by decide)) (fun _ hk => hk.2) (.int .i64 t622)) (fun _ hk => hk.2) (.int .i64 t623)) (fun _ hk => hk.2) (.slice Ao41 t624.length co41)) (fun _ h_ => h_.1)))); (case side4 => exact (Kd.S_reads' HO_612002.out).2.1); rintro e w55 ⟨rfl, hb⟩; refine ⟨_, rfl, ?_⟩; have n0_ := Aside0.mk (Kd.S_below (by (with_reducible repeat (first | apply Kd.S_alloc | apply Kd.S_drewN | apply Kd.S_drew)); exact (Kd.S_mono (Kd.S_far (p := ⟨gb628, 2, none⟩) (Kd.S_far (p := ⟨gb628, 1, none⟩) (Kd.S_far (p := ⟨gb628, 0, none⟩) (Kd.S_types HO_612002.out BK628.out (by decide)) (fun _ hk => hk.2) (.int .i64 t622)) (fun _ hk => hk.2) (.int .i64 t623)) (fun _ hk => hk.2) (.slice Ao41 t624.length co41)) (fun _ h_ => h_.1))) hb); have n1_ := Aside0.mk (Kd.S_below (by (with_reducible repeat (first | apply Kd.S_alloc | apply Kd.S_drewN | apply Kd.S_drew)); exact (Kd.S_mono (Kd.S_far (p := ⟨gb628, 2, none⟩) (Kd.S_far (p := ⟨gb628, 1, none⟩) (Kd.S_far (p := ⟨gb628, 0, none⟩) (Kd.S_types HO_619002.out BK628.out (by decide)) (fun _ hk => hk.2) (.int .i64 t622)) (fun _ hk => hk.2) (.int .i64 t623)) (fun _ hk => hk.2) (.slice Ao41 t624.length co41)) (fun _ h_ => h_.1))) hb); have n2_ := Aside0.mk (Kd.S_below (by (with_reducible repeat (first | apply Kd.S_alloc | apply Kd.S_drewN | apply Kd.S_drew)); exact (Kd.S_mono (Kd.S_far (p := ⟨gb628, 2, none⟩) (Kd.S_far (p := ⟨gb628, 1, none⟩) (Kd.S_far (p := ⟨gb628, 0, none⟩) (Kd.S_types HO626.out BK628.out (by decide)) (fun _ hk => hk.2) (.int .i64 t622)) (fun _ hk => hk.2) (.int .i64 t623)) (fun _ hk => hk.2) (.slice Ao41 t624.length co41)) (fun _ h_ => h_.1))) hb); have n3_ := Aside0.mk (blk_below (g := gb611) (o := .cells #[.int .i64 t605, .int .i64 t606, .slice Ao8 t607.length co8] 61 (0, 0)) (by (with_reducible repeat (first | refine blk_drewN ?_ _ | refine blk_drew ?_ | refine blk_alloc ?_ _)); refine blk_far ?_ NB611_628.out _; (with_reducible repeat (first | refine blk_drewN ?_ _ | refine blk_drew ?_ | refine blk_alloc ?_ _)); refine blk_far ?_ NB611_628.out _; (with_reducible repeat (first | refine blk_drewN ?_ _ | refine blk_drew ?_ | refine blk_alloc ?_ _)); refine blk_far ?_ NB611_628.out _; (with_reducible repeat (first | refine blk_drewN ?_ _ | refine blk_drew ?_ | refine blk_alloc ?_ _)); exact BK611.out) hb); have n4_ := Aside0.mk (blk_below (g := gb618) (o := .cells #[.int .i64 t612, .int .i64 t613, .slice Ao13 t614.length co13] 61 (0, 0)) (by (with_reducible repeat (first | refine blk_drewN ?_ _ | refine blk_drew ?_ | refine blk_alloc ?_ _)); refine blk_far ?_ NB618_628.out _; (with_reducible repeat (first | refine blk_drewN ?_ _ | refine blk_drew ?_ | refine blk_alloc ?_ _)); refine blk_far ?_ NB618_628.out _; (with_reducible repeat (first | refine blk_drewN ?_ _ | refine blk_drew ?_ | refine blk_alloc ?_ _)); refine blk_far ?_ NB618_628.out _; (with_reducible repeat (first | refine blk_drewN ?_ _ | refine blk_drew ?_ | refine blk_alloc ?_ _)); exact BK618.out) hb); have n5_ := Aside0.mk (blk_below (g := gb628) (o := .cells #[.int .i64 t622, .int .i64 t623, .slice Ao41 t624.length co41] 61 (0, 0)) (by (with_reducible repeat (first | refine blk_drewN ?_ _ | refine blk_drew ?_ | refine blk_alloc ?_ _)); refine blk_put (cs := #[.int .i64 t622, .int .i64 t623, .slice none 0 0]) ?_ 2 _ rfl; (with_reducible repeat (first | refine blk_drewN ?_ _ | refine blk_drew ?_ | refine blk_alloc ?_ _)); refine blk_put (cs := #[.int .i64 t622, .int .i64 0, .slice none 0 0]) ?_ 1 _ rfl; (with_reducible repeat (first | refine blk_drewN ?_ _ | refine blk_drew ?_ | refine blk_alloc ?_ _)); refine blk_put (cs := #[.int .i64 0, .int .i64 0, .slice none 0 0]) ?_ 0 _ rfl; (with_reducible repeat (first | refine blk_drewN ?_ _ | refine blk_drew ?_ | refine blk_alloc ?_ _)); exact BK628.out) hb); have n6_ := Aside0.mk (below_step (by repeat (first | (with_reducible first | exact HB.out | apply below_alloc | apply pw_below_drewN | apply below_drew1 | refine below_set ?_ GE611.out | refine below_set ?_ GE618.out | refine below_set ?_ GE628.out) | exact HB.out)) hb); clear HO_612002; clear HO_619002; clear HO626; clear BK611; clear BK618; clear BK628; clear HB; have HO_612002 := n0_; have HO_619002 := n1_; have HO626 := n2_; have BK611 := n3_; have BK618 := n4_; have BK628 := n5_; have HB := n6_; clear n0_ n1_ n2_ n3_ n4_ n5_ n6_; (try clear hb); (try clear hb2); (try clear hk); (try clear hi)))
                go_meet
                case rel => exact ⟨_, (true), (by first | rfl | (simp; done) | (simp [*]; done)), H', ⟨by have := HJ3.out; first | omega | exact Nat.le_refl _⟩, ⟨by (with_reducible repeat (first | apply Kd.S_alloc | apply Kd.S_drewN | apply Kd.S_drew)); exact HO_612002.out⟩, ⟨by (with_reducible repeat (first | apply Kd.S_alloc | apply Kd.S_drewN | apply Kd.S_drew)); exact HO_619002.out⟩, ⟨by (with_reducible repeat (first | apply Kd.S_alloc | apply Kd.S_drewN | apply Kd.S_drew)); exact Kd.S_mono HO626.out (fun _ hk => ⟨hk.1.2, hk.2⟩)⟩, ⟨by (with_reducible repeat (first | refine blk_drewN ?_ _ | refine blk_drew ?_ | refine blk_alloc ?_ _)); exact BK611.out⟩, ⟨by (with_reducible repeat (first | refine blk_drewN ?_ _ | refine blk_drew ?_ | refine blk_alloc ?_ _)); exact BK618.out⟩, ⟨by (with_reducible repeat (first | refine blk_drewN ?_ _ | refine blk_drew ?_ | refine blk_alloc ?_ _)); exact BK628.out⟩, ⟨by repeat (first | (with_reducible first | exact HB.out | apply below_alloc | apply pw_below_drewN | apply below_drew1 | refine below_set ?_ GE611.out | refine below_set ?_ GE618.out | refine below_set ?_ GE628.out) | exact HB.out)⟩⟩
            case rest =>
              clear HC30
              try clear c1
              try clear c2
              try clear p2
              try clear c3
              try clear c4
              try clear c5
              try clear c11
              try clear c13
              try clear c15
              try clear c16
              try clear c20
              try clear c24
              try clear c27
              try clear c27b0
              try clear c28
              try clear c28b0
              try clear c28b1
              try clear c31
              try clear c38
              try clear c39
              try clear c41
              try clear c42
              try clear c43
              try clear c44
              try clear c45
              try clear c47
              try clear c50
              try clear c51
              try clear c53
              try clear hcz12_0
              try clear hcz12_1
              try clear hcz12_2
              try clear hcz17_0
              try clear hcz17_1
              try clear hcz17_2
              try clear hcz18_0
              try clear hcz18_1
              try clear hcz18_2
              try clear hcz21_0
              try clear hcz21_1
              try clear hcz21_2
              try clear hcz22_0
              try clear hcz22_1
              try clear hcz22_2
              try clear hcz32_0
              try clear hcz32_1
              try clear hcz32_2
              try clear hcz34_0
              try clear hcz34_1
              try clear hcz34_2
              try clear hcz40_0
              try clear hcz40_1
              try clear hcz40_2
              try clear hcz46_0
              try clear hcz46_1
              try clear hcz46_2
              try clear hcz48_0
              try clear hcz48_1
              try clear hcz48_2
              try clear hcz52_0
              try clear hcz52_1
              try clear hcz52_2
              try clear hcz54_0
              try clear hcz54_1
              try clear hcz54_2
              try clear hcz7_0
              try clear hcz7_1
              try clear hcz7_2
              try clear hfz12_0
              try clear hfz12_1
              try clear hfz12_2
              try clear hfz17_0
              try clear hfz17_1
              try clear hfz17_2
              try clear hfz18_0
              try clear hfz18_1
              try clear hfz18_2
              try clear hfz21_0
              try clear hfz21_1
              try clear hfz21_2
              try clear hfz22_0
              try clear hfz22_1
              try clear hfz22_2
              try clear hfz32_0
              try clear hfz32_1
              try clear hfz32_2
              try clear hfz34_0
              try clear hfz34_1
              try clear hfz34_2
              try clear hfz40_0
              try clear hfz40_1
              try clear hfz40_2
              try clear hfz46_0
              try clear hfz46_1
              try clear hfz46_2
              try clear hfz48_0
              try clear hfz48_1
              try clear hfz48_2
              try clear hfz52_0
              try clear hfz52_1
              try clear hfz52_2
              try clear hfz54_0
              try clear hfz54_1
              try clear hfz54_2
              try clear hfz7_0
              try clear hfz7_1
              try clear hfz7_2
              try clear p2
              obtain ⟨kq, x54_29, rfl, HA, HJ29, HO_612002, HO_619002, HO_629002, BK611, BK618, BK628, HB⟩ := hcut
              cases kq with
              | zero => exact absurd HA.out (by simp [laws_FnExactNewStore.j1])
              | succ kj29 =>
                have H := HA.out
                clear HA
                simp only [laws_FnExactNewStore.j1] at H
                by_cases c56 : x54_29 = true
                · subst c56
                  have H1 : (some false) = some r := by rw [if_pos rfl] at H; exact H
                  clear H
                  have H := H1
                  clear H1
                  exact absurd H (by rw [hr_.out]; simp)
                · replace c56 := Bool.eq_false_iff.mpr c56
                  subst c56
                  have H1 : ((laws_heldStore.f kj29 t612 t613 t614 1).bind fun t630 => (if t630 < 0 then (some false) else (if t630 = t620 then (some true) else (some false)))) = some r := by rw [if_neg (show ¬ (false = true) by decide)] at H; exact H
                  clear H
                  have H := H1
                  clear H1
                  replace H := Option.bind_eq_some_iff.mp H
                  obtain ⟨t630, A570, H⟩ := H
                  replace H : (if t630 < 0 then (some false) else (if t630 = t620 then (some true) else (some false))) = some r := H
                  have A57 := Aside0.mk A570
                  clear A570
                  by_cases c58 : t630 < 0
                  · rw [if_pos c58] at H
                    have c58b0 : decide (t630 < 0) = true := decide_eq_true c58
                    clear c58
                    exact absurd H (by rw [hr_.out]; simp)
                  · rw [if_neg c58] at H
                    have c58b0 : decide (t630 < 0) = false := decide_eq_false c58
                    clear c58
                    by_cases c59 : t630 = t620
                    · rw [if_pos c59] at H
                      have c59b0 : (t630 == t620) = true := beq_iff_eq.mpr c59
                      have c59b1 : (t630 != t620) = false := bne_eq_false_iff_eq.mpr c59
                      clear c59
                      obtain rfl := Option.some.inj H
                      have hnb60 := NB618_611.out
                      have hnc60 := NB611_618.out
                      have hnb61 := NB618_628.out
                      have hnc61 := NB628_618.out
                      have hcz62_0 : wc.cell? ⟨gb618, 0, none⟩ = some (.int .i64 t612) := (blk_cell BK618.out 0).trans rfl
                      have hcz62_1 : wc.cell? ⟨gb618, 1, none⟩ = some (.int .i64 t613) := (blk_cell BK618.out 1).trans rfl
                      have hcz62_2 : wc.cell? ⟨gb618, 2, none⟩ = some (.slice Ao13 t614.length co13) := (blk_cell BK618.out 2).trans rfl
                      have hfz62_0 := blk_frozen BK618.out 0
                      have hfz62_1 := blk_frozen BK618.out 1
                      have hfz62_2 := blk_frozen BK618.out 2
                      go_wp2_with (first | ((with_reducible refine gate_callee (f := 45) rfl ?_); refine goesL_ (some 57) rfl rfl Try.func45 (by kernel_rfl) rfl #[.agg #[.int .i64 t612, .int .i64 t613, .slice Ao13 t614.length co13], .int .i64 1] rfl (by (try simp only [List.map_toArray, List.map_cons, List.map_nil]); first | done | rfl | (simp only [List.length_drop, List.length_take]; rfl)) ?_; (with_reducible refine (laws_heldStore.calls kj29 t612 t613 _ _ t614 1 t630 _ ?side1 ?side2 A57.out).mono ?_); (case side1 => repeat (first | exact (Kd.S_reads' HO_619002.out).2.2 | (with_reducible refine Kd.C_alloc ?_ _) | (with_reducible refine Kd.C_drewN ?_ _) | (with_reducible refine Kd.C_drew ?_))); (case side2 => exact (Kd.S_reads' HO_619002.out).2.1); rintro e w63 ⟨rfl, hb⟩; refine ⟨_, rfl, ?_⟩; have n0_ := Aside0.mk (Kd.S_below (by (with_reducible repeat (first | apply Kd.S_alloc | apply Kd.S_drewN | apply Kd.S_drew)); exact HO_612002.out) hb); have n1_ := Aside0.mk (Kd.S_below (by (with_reducible repeat (first | apply Kd.S_alloc | apply Kd.S_drewN | apply Kd.S_drew)); exact HO_619002.out) hb); have n2_ := Aside0.mk (Kd.S_below (by (with_reducible repeat (first | apply Kd.S_alloc | apply Kd.S_drewN | apply Kd.S_drew)); exact HO_629002.out) hb); have n3_ := Aside0.mk (blk_below (g := gb611) (o := .cells #[.int .i64 t605, .int .i64 t606, .slice Ao8 t607.length co8] 61 (0, 0)) (by (with_reducible repeat (first | refine blk_drewN ?_ _ | refine blk_drew ?_ | refine blk_alloc ?_ _)); exact BK611.out) hb); have n4_ := Aside0.mk (blk_below (g := gb618) (o := .cells #[.int .i64 t612, .int .i64 t613, .slice Ao13 t614.length co13] 61 (0, 0)) (by (with_reducible repeat (first | refine blk_drewN ?_ _ | refine blk_drew ?_ | refine blk_alloc ?_ _)); exact BK618.out) hb); have n5_ := Aside0.mk (blk_below (g := gb628) (o := .cells #[.int .i64 t622, .int .i64 t623, .slice Ao41 t624.length co41] 61 (0, 0)) (by (with_reducible repeat (first | refine blk_drewN ?_ _ | refine blk_drew ?_ | refine blk_alloc ?_ _)); exact BK628.out) hb); have n6_ := Aside0.mk (below_step (by repeat (first | (with_reducible first | exact HB.out | apply below_alloc | apply pw_below_drewN | apply below_drew1 | refine below_set ?_ GE611.out | refine below_set ?_ GE618.out | refine below_set ?_ GE628.out) | exact HB.out)) hb); clear HO_612002; clear HO_619002; clear HO_629002; clear BK611; clear BK618; clear BK628; clear HB; have HO_612002 := n0_; have HO_619002 := n1_; have HO_629002 := n2_; have BK611 := n3_; have BK618 := n4_; have BK628 := n5_; have HB := n6_; clear n0_ n1_ n2_ n3_ n4_ n5_ n6_; (try clear hb); (try clear hb2); (try clear hk); (try clear hi)))
                      go_ret
                      exact ⟨by first | rfl | (simp [errW_none, errW_some] <;> rfl) | (simp [*, errW_none, errW_some] <;> rfl), by repeat (first | (with_reducible first | exact HB.out | apply below_alloc | apply pw_below_drewN | apply below_drew1 | refine below_set ?_ GE611.out | refine below_set ?_ GE618.out | refine below_set ?_ GE628.out) | exact HB.out)⟩
                    · rw [if_neg c59] at H
                      have c59b0 : (t630 == t620) = false := beq_eq_false_iff_ne.mpr c59
                      have c59b1 : (t630 != t620) = true := bne_iff_ne.mpr c59
                      exact absurd H (by rw [hr_.out]; simp)
          · rw [if_neg c28] at H
            have c28b0 : (t621 == t620) = false := beq_eq_false_iff_ne.mpr c28
            have c28b1 : (t621 != t620) = true := bne_iff_ne.mpr c28
            exact absurd H (by rw [hr_.out]; simp)

end Go.Proofs.Ytopmacbjbjaekaa.H
