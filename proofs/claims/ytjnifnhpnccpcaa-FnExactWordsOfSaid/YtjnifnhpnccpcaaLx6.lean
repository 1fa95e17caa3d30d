-- Made by this session's program gprint.py out of the translation. Not trusted: Lean checks it.
import Derived.Test.YtjnifnhpnccpcaaLx0
import Derived.Test.YtjnifnhpnccpcaaLx1
import Derived.Test.YtjnifnhpnccpcaaLx5
namespace Go.Proofs.Ytjnifnhpnccpcaa.L
open Go.RowKit Go.Proofs.YtjnifnhpnccpcaaW.PrintWords Go.Proofs.YtjnifnhpnccpcaaW.PrintLast Go.Proofs.YtjnifnhpnccpcaaW.PrintMore
attribute [local go_sem] max2_int min2_int max_two min_two max_three min_three max_four min_four   -- for this text's walks alone
set_option linter.unusedVariables false
set_option linter.unusedSimpArgs false

attribute [local go_sem high] eqA75
/-! ### spec_l15List: function 51 -/
def spec_l15List.l0 : Nat → List (S77) → Int → List (S88) → Int → Int → Option ((List (S77)) × Int)
 | 0, _, _, _, _, _ => none
 | k + 1, x4, x5, x9, x10, x11 => if x11 < x10 then (if 0 ≤ x11 then (if x11 < (x9.length : Int) then (if x4.length < 2513169434916 then ((some (x4 ++ [(⟨(rd_T88 x9 x11).f0.f0, (rd_T88 x9 x11).f0.f1, (rd_T88 x9 x11).f0.f2, (⟨(rd_T88 x9 x11).f0.f3.f0, (rd_T88 x9 x11).f0.f3.f1, (rd_T88 x9 x11).f0.f3.f2⟩ : S75), (rd_T88 x9 x11).f0.f4⟩ : S77)] : List (S77))).bind fun y104 => ((spec_l14Straight.f k ((rd_T88 x9 x11).f0.f0) ((rd_T88 x9 x11).f0.f1) ((rd_T88 x9 x11).f0.f2) ((rd_T88 x9 x11).f0.f3.f0) ((rd_T88 x9 x11).f0.f3.f1) ((rd_T88 x9 x11).f0.f3.f2) ((rd_T88 x9 x11).f0.f4)).bind fun t107 => (if t107 = true then (spec_l15List.l0 k y104 (wrap64 (x5 + 1)) x9 x10 (wrap64 (x11 + 1))) else (spec_l15List.l0 k y104 x5 x9 x10 (wrap64 (x11 + 1)))))) else (none)) else (none)) else (none)) else (some (x4, x5))
def spec_l15List.f (k : Nat) (a0_0 : Int) (a0_1 : Int) (l0_2 : List (S88)) : Option ((List (S77)) × Int) := spec_l15List.l0 k ([] : List (S77)) 0 l0_2 (l0_2.length : Int) 0
theorem spec_l15List.mono_l : ∀ k, (∀ y0 y1 y2 y3 y4, LeO (spec_l15List.l0 k y0 y1 y2 y3 y4) (spec_l15List.l0 (k + 1) y0 y1 y2 y3 y4))
 | 0 => fun _ _ _ _ _ r h => by simp [spec_l15List.l0] at h
 | k + 1 => by
  have ih0 := spec_l15List.mono_l k
  ·
   intro y0 y1 y2 y3 y4
   unfold spec_l15List.l0
   repeat' first
   | (with_reducible exact ih0 _ _ _ _ _)
   | (with_reducible exact spec_l14Straight.mono _ _ _ _ _ _ _ _)
   | (with_reducible exact LeO.refl _)
   | (with_reducible exact LeO.none _)
   | (with_reducible refine LeO.ite ?_ ?_)
   | (with_reducible refine LeO.bind ?_ (fun _ => ?_))
   | exact ih0 _ _ _ _ _
   | exact spec_l14Straight.mono _ _ _ _ _ _ _ _
   | exact LeO.none _
   | refine LeO.ite ?_ ?_
   | refine LeO.bind ?_ (fun _ => ?_)
theorem spec_l15List.mono : ∀ a0 a1 a2 k, LeO (spec_l15List.f k a0 a1 a2) (spec_l15List.f (k + 1) a0 a1 a2) := by
 intro a0 a1 a2 k
 have ih0 := spec_l15List.mono_l k
 unfold spec_l15List.f
 repeat' first
   | (with_reducible exact ih0 _ _ _ _ _)
   | (with_reducible exact spec_l14Straight.mono _ _ _ _ _ _ _ _)
   | (with_reducible exact LeO.refl _)
   | (with_reducible exact LeO.none _)
   | (with_reducible refine LeO.ite ?_ ?_)
   | (with_reducible refine LeO.bind ?_ (fun _ => ?_))
   | exact ih0 _ _ _ _ _
   | exact spec_l14Straight.mono _ _ _ _ _ _ _ _
   | exact LeO.none _
   | refine LeO.ite ?_ ?_
   | refine LeO.bind ?_ (fun _ => ?_)
set_option maxHeartbeats 8000000 in
set_option maxRecDepth 100000 in
theorem spec_l15List.calls (k : Nat) (a0_0 : Int) (a0_1 : Int) (A0_2 : Option Addr) (c0_2 : Nat) (l0_2 : List (S88)) (r1 : List (S77)) (r2 : Int) (w : World) (hr0_2 : Kd.C k88 w A0_2 l0_2.length l0_2) (hc0_2 : l0_2.length ≤ c0_2) (h : spec_l15List.f k a0_0 a0_1 l0_2 = some (r1, r2)) :
  Calls Try.prog 51 #[.agg #[.int .i64 a0_0, .int .i64 a0_1, .slice A0_2 l0_2.length c0_2]] w fun e w' => ∃ v0_ : Value, e = .returned (.tuple #[v0_, .int .i64 r2]) ∧ Kd.R k77 77 w' w.heap.size (fun _ => True) v0_ r1 ∧ Below w.heap.size w w' := by
 have hu41 := Try.underlying41; have hu88 := Try.underlying88; have hu77 := Try.underlying77; have HR0_2 := Aside0.mk hr0_2; have HC0_2 := Aside0.mk hc0_2; clear hr0_2 hc0_2; have HB := Aside0.mk (Below.refl w.heap.size w); have H : (spec_l15List.l0 k ([] : List (S77)) 0 l0_2 (l0_2.length : Int) 0) = some (r1, r2) := h; clear h; have H' := Aside0.mk H; clear H; go_enter Try.func51, Try.ntmps51; go_wp2_with (first | ((with_reducible refine gate_dst (N := 1) rfl ?_); refine boxE (w := w) oL (cs := #[.int .i64 a0_0, .int .i64 a0_1, .slice A0_2 l0_2.length c0_2]) (t := 41) ?_; clear HB; intro gb101 w2 HB BK101 GW101; have GE101 := GW101; obtain ⟨hcz3_0, hcz3_1, hcz3_2⟩ := cz3 BK101.out; obtain ⟨hfz3_0, hfz3_1, hfz3_2⟩ := fz3 BK101.out))
 go_loopg [4, 5, 11] k (fun kq v4 v5 v11 w' => ∃ (x4_1 : List (S77)) (x5_1 : Int) (x11_1 : Int), v5 = .int .i64 x5_1 ∧ v11 = .int .i64 x11_1 ∧ Aside0 (spec_l15List.l0 kq x4_1 x5_1 l0_2 (l0_2.length : Int) x11_1 = some (r1, r2)) ∧ Aside0 (kq ≤ k) ∧ Aside0 (Kd.R k77 77 w' w.heap.size (fun _ => True) v4 x4_1) ∧ Aside0 (w'.heap[gb101]? = some (.cells #[.int .i64 a0_0, .int .i64 a0_1, (.slice A0_2 l0_2.length c0_2)] 41 (0, 0))) ∧ Aside0 (Below w.heap.size w w'))
 case atStart => exact ⟨(([] : List (S77))), (0), (0), (by first | rfl | (simp; done) | (simp [*]; done)), (by first | rfl | (simp; done) | (simp [*]; done)), H', ⟨Nat.le_refl _⟩, ⟨by first | exact Kd.R_nil _ _ _ _ _ | exact Kd.N_nil _ _ _ _ _ | exact Kd.V_nil _ _ _ _ _ | exact Kd.Q_nil _ _ _ _ _ | exact Kd.S_nil _ _ _ _ _⟩, ⟨by (with_reducible repeat (first | refine blk_drewN ?_ _ | refine blk_drew ?_ | refine blk_alloc ?_ _)); exact BK101.out⟩, ⟨by repeat (first | (with_reducible first | exact HB.out | apply below_alloc | apply pw_below_drewN | apply below_drew1 | refine below_set ?_ GE101.out) | exact HB.out)⟩⟩
 case round =>
  clear H'; (try clear p2); (try clear hcz3_0 hcz3_1 hcz3_2); (try clear hfz3_0 hfz3_1 hfz3_2); obtain ⟨x4_1, x5_1, x11_1, rfl, rfl, HA, HK1, HO_4, BK101, HB⟩ := hrel; cases gk with
  | zero => exact absurd HA.out (by simp [spec_l15List.l0])
  | succ k1 =>
   have H := HA.out; clear HA; simp only [spec_l15List.l0] at H; by_cases c4 : x11_1 < (l0_2.length : Int)
   ·
    rw [if_pos c4] at H; have c4b0 : decide (x11_1 < (l0_2.length : Int)) = true := decide_eq_true c4; clear c4; by_cases c5 : 0 ≤ x11_1
    ·
     rw [if_pos c5] at H; have c5b0 : decide (0 ≤ x11_1) = true := decide_eq_true c5; clear c5; by_cases c6 : x11_1 < (l0_2.length : Int)
     ·
      rw [if_pos c6] at H; have c6b0 : decide (x11_1 < (l0_2.length : Int)) = true := decide_eq_true c6; clear c6; by_cases c7 : x4_1.length < 2513169434916
      ·
       rw [if_pos c7] at H; have LMc7 := Aside0.mk c7; clear c7; obtain ⟨y104, hy104⟩ : ∃ y_ : List (S77), y_ = (x4_1 ++ [(⟨(rd_T88 l0_2 x11_1).f0.f0, (rd_T88 l0_2 x11_1).f0.f1, (rd_T88 l0_2 x11_1).f0.f2, (⟨(rd_T88 l0_2 x11_1).f0.f3.f0, (rd_T88 l0_2 x11_1).f0.f3.f1, (rd_T88 l0_2 x11_1).f0.f3.f2⟩ : S75), (rd_T88 l0_2 x11_1).f0.f4⟩ : S77)]) := ⟨_, rfl⟩; replace H : ((spec_l14Straight.f k1 ((rd_T88 l0_2 x11_1).f0.f0) ((rd_T88 l0_2 x11_1).f0.f1) ((rd_T88 l0_2 x11_1).f0.f2) ((rd_T88 l0_2 x11_1).f0.f3.f0) ((rd_T88 l0_2 x11_1).f0.f3.f1) ((rd_T88 l0_2 x11_1).f0.f3.f2) ((rd_T88 l0_2 x11_1).f0.f4)).bind fun t107 => (if t107 = true then (spec_l15List.l0 k1 y104 (wrap64 (x5_1 + 1)) l0_2 (l0_2.length : Int) (wrap64 (x11_1 + 1))) else (spec_l15List.l0 k1 y104 x5_1 l0_2 (l0_2.length : Int) (wrap64 (x11_1 + 1))))) = some (r1, r2) := by first | (rw [hy104]; with_reducible exact H) | (have H2_ := (Option.bind_some _ _).symm.trans H; rw [hy104]; with_reducible exact H2_) | (have H2_ := (Option.bind_some _ _).symm.trans H; with_reducible exact H2_) | with_reducible exact H | (rw [hy104]; exact H) | exact H
       have Ny104 := Aside0.mk hy104; clear hy104; obtain ⟨t107, A80, H⟩ := bE H; have A8 := Aside0.mk A80; clear A80; by_cases c9 : t107 = true
       ·
        subst c9; replace H := iT H; have H' := Aside0.mk H; clear H; have p102 : 0 ≤ (x11_1 : Int) := of_decide_eq_true (by first | (with_reducible assumption) | assumption); have q102 : x11_1 < (l0_2.length : Int) := of_decide_eq_true (by first | (with_reducible assumption) | assumption); obtain ⟨ad102, e102, hx102_0, hx102_1, hx102_2, hx102_3, hx102_4, hx102_5, hx102_6, hx102_7, hx102_8⟩ := at_T88 HR0_2.out x11_1 p102 q102; cases e102
        replace hx102_0 := (HB.out.cell (World.block_lt_of_cell? w _ hx102_0)).trans hx102_0; replace hx102_1 := (HB.out.cell (World.block_lt_of_cell? w _ hx102_1)).trans hx102_1; replace hx102_2 := (HB.out.cell (World.block_lt_of_cell? w _ hx102_2)).trans hx102_2; replace hx102_3 := (HB.out.cell (World.block_lt_of_cell? w _ hx102_3)).trans hx102_3; replace hx102_4 := (HB.out.cell (World.block_lt_of_cell? w _ hx102_4)).trans hx102_4; replace hx102_5 := (HB.out.cell (World.block_lt_of_cell? w _ hx102_5)).trans hx102_5; replace hx102_6 := (HB.out.cell (World.block_lt_of_cell? w _ hx102_6)).trans hx102_6; replace hx102_7 := (HB.out.cell (World.block_lt_of_cell? w _ hx102_7)).trans hx102_7; replace hx102_8 := (HB.out.cell (World.block_lt_of_cell? w _ hx102_8)).trans hx102_8; replace p102 := eq_true p102; replace q102 := eq_true q102; go_wp2_with (first | ((with_reducible refine gate_dst (N := 7) rfl ?_); refine box_event ?hg (N := 7) ?hd (cs := #[.int .i64 0, .int .i64 0, .int .i64 0, .int .i64 0, .int .i64 0, .int .i64 0, .int .i64 0, .int .i64 0, .bool false]) (t := 88) ?hr ?_; (case hd => rfl); (case hg => rfl); (case hr => first | (go_simp; done) | (go_simp; rfl)); intro gb103 hg w10 hbox hb; have n0_ := Aside0.mk (Kd.R_below (oR HO_4.out) hb); have n1_ := Aside0.mk (blk_below (oB BK101.out) hb); have n2_ := Aside0.mk (below_step oL hb); have n3_ := Aside0.mk (hbox); have n4_ := Aside0.mk ((oS hg oL : w.heap.size ≤ gb103)); have n5_ := Aside0.mk ((oS hg oL : w.heap.size ≤ gb103)); have n6_ := Aside0.mk ((oN hg (oB BK101.out) : gb101 ≠ gb103)); have n7_ := Aside0.mk ((oM hg (oB BK101.out) : gb103 ≠ gb101)); clear HO_4; clear BK101; clear HB; have HO_4 := n0_; have BK101 := n1_; have HB := n2_; have BK103 := n3_; have GW103 := n4_; have GE103 := n5_; have NB101_103 := n6_; have NB103_101 := n7_; clear n0_ n1_ n2_ n3_ n4_ n5_ n6_ n7_; clear hb hbox hg; have hnb11 := NB103_101.out; have hnc11 := NB101_103.out; obtain ⟨hcz12_0, hcz12_1, hcz12_2, hcz12_3, hcz12_4, hcz12_5, hcz12_6, hcz12_7, hcz12_8⟩ := cz9 BK103.out; obtain ⟨hfz12_0, hfz12_1, hfz12_2, hfz12_3, hfz12_4, hfz12_5, hfz12_6, hfz12_7, hfz12_8⟩ := fz9 BK103.out) | ((with_reducible refine gate_builtin (b := .append) (xs := #[.tmp 15, .tmp 18]) rfl ?_); at_builtin; refine Kd.R_append k77 (w0 := w) w.heap.size rfl (.tmp 15) (.tmp 18) 27 77 (.agg #[(.int .i64 0), (.int .i64 0), (.int .i64 0), (.int .i64 0), (.int .i64 0), (.int .i64 0), (.int .i64 0)]) 56 rfl Try.underlying27 info77 rfl (by decide) (by omega) u4 x4_1 (⟨(rd_T88 l0_2 x11_1).f0.f0, (rd_T88 l0_2 x11_1).f0.f1, (rd_T88 l0_2 x11_1).f0.f2, (⟨(rd_T88 l0_2 x11_1).f0.f3.f0, (rd_T88 l0_2 x11_1).f0.f3.f1, (rd_T88 l0_2 x11_1).f0.f3.f2⟩ : S75), (rd_T88 l0_2 x11_1).f0.f4⟩ : S77) [.int .i64 ((rd_T88 l0_2 x11_1).f0.f0), .int .i64 ((rd_T88 l0_2 x11_1).f0.f1), .int .i64 ((rd_T88 l0_2 x11_1).f0.f2), .int .i64 ((rd_T88 l0_2 x11_1).f0.f3.f0), .int .i64 ((rd_T88 l0_2 x11_1).f0.f3.f1), .int .i64 ((rd_T88 l0_2 x11_1).f0.f3.f2), .int .i64 ((rd_T88 l0_2 x11_1).f0.f4)] (fun _ => True) (fun _ => False) rfl (by first | (go_simp; done) | (go_simp; rfl)) ?aP (fun _ hk => hk.elim) ?aF ?aO ?aB ?aS ?aL ?_; (case aP => exact k77_mkM _ _ _ (⟨(rd_T88 l0_2 x11_1).f0.f0, (rd_T88 l0_2 x11_1).f0.f1, (rd_T88 l0_2 x11_1).f0.f2, (⟨(rd_T88 l0_2 x11_1).f0.f3.f0, (rd_T88 l0_2 x11_1).f0.f3.f1, (rd_T88 l0_2 x11_1).f0.f3.f2⟩ : S75), (rd_T88 l0_2 x11_1).f0.f4⟩ : S77)); (case aB => exact oL); (case aF => exact (fun _ _ => trivial)); (case aO => exact (by (with_reducible repeat (first | apply Kd.R_alloc | apply Kd.R_drewN | apply Kd.R_drew)); exact Kd.R_mono (oFr HO_4.out BK103.out) (fun _ hk => trivial))); (case aS => exact (below_size oL)); (case aL => have := LMc7.out; omega); intro v105 w13 ho hb hg hat; rw [← Ny104.out] at ho; have n0_ := Aside0.mk (blk_grown (g := gb101) (o := .cells #[.int .i64 a0_0, .int .i64 a0_1, .slice (some ad102) l0_2.length c0_2] 41 (0, 0)) (oG BK101.out NB101_103.out) hg (Kd.R_ne HO_4.out BK101.out (by decide))); have n1_ := Aside0.mk (blk_grown (g := gb103) (o := .cells #[.int .i64 ((rd_T88 l0_2 x11_1).f0.f0), .int .i64 ((rd_T88 l0_2 x11_1).f0.f1), .int .i64 ((rd_T88 l0_2 x11_1).f0.f2), .int .i64 ((rd_T88 l0_2 x11_1).f0.f3.f0), .int .i64 ((rd_T88 l0_2 x11_1).f0.f3.f1), .int .i64 ((rd_T88 l0_2 x11_1).f0.f3.f2), .int .i64 ((rd_T88 l0_2 x11_1).f0.f4), .int .i64 ((rd_T88 l0_2 x11_1).f1), .bool ((rd_T88 l0_2 x11_1).f2)] 88 (0, 0)) (oP BK103.out) hg (Kd.R_ne HO_4.out BK103.out (by decide))); have n2_ := Aside0.mk (hb); have n3_ := Aside0.mk (ho); clear BK101; clear BK103; clear HB; clear HO_4; have BK101 := n0_; have BK103 := n1_; have HB := n2_; have HO106 := n3_; clear n0_ n1_ n2_ n3_; clear ho hb hg hat; obtain ⟨hcz14_0, hcz14_1, hcz14_2, hcz14_3, hcz14_4, hcz14_5, hcz14_6, hcz14_7, hcz14_8⟩ := cz9 BK103.out; obtain ⟨hfz14_0, hfz14_1, hfz14_2, hfz14_3, hfz14_4, hfz14_5, hfz14_6, hfz14_7, hfz14_8⟩ := fz9 BK103.out) | ((with_reducible refine gate_callee (f := 55) rfl ?_); refine goesL_ (some 22) rfl rfl Try.func55 (by kernel_rfl) rfl #[.agg #[.int .i64 ((rd_T88 l0_2 x11_1).f0.f0), .int .i64 ((rd_T88 l0_2 x11_1).f0.f1), .int .i64 ((rd_T88 l0_2 x11_1).f0.f2), .int .i64 ((rd_T88 l0_2 x11_1).f0.f3.f0), .int .i64 ((rd_T88 l0_2 x11_1).f0.f3.f1), .int .i64 ((rd_T88 l0_2 x11_1).f0.f3.f2), .int .i64 ((rd_T88 l0_2 x11_1).f0.f4)]] rfl (by (try simp only [List.map_toArray, List.map_cons, List.map_nil]); first | done | rfl | (simp only [List.length_drop, List.length_take]; rfl)) ?_; (with_reducible refine (spec_l14Straight.calls k1 ((rd_T88 l0_2 x11_1).f0.f0) ((rd_T88 l0_2 x11_1).f0.f1) ((rd_T88 l0_2 x11_1).f0.f2) ((rd_T88 l0_2 x11_1).f0.f3.f0) ((rd_T88 l0_2 x11_1).f0.f3.f1) ((rd_T88 l0_2 x11_1).f0.f3.f2) ((rd_T88 l0_2 x11_1).f0.f4) true _ A8.out).mono ?_); rintro e w15 ⟨rfl, hb⟩; refine ⟨_, rfl, ?_⟩; have n0_ := Aside0.mk (Kd.R_below (oR HO106.out) hb); have n1_ := Aside0.mk (blk_below (oB BK101.out) hb); have n2_ := Aside0.mk (blk_below (oB BK103.out) hb); have n3_ := Aside0.mk (below_step oL hb); clear HO106; clear BK101; clear BK103; clear HB; have HO106 := n0_; have BK101 := n1_; have BK103 := n2_; have HB := n3_; clear n0_ n1_ n2_ n3_; (try clear hb); (try clear hb2); (try clear hk); (try clear hi)))
        go_roundg k1; case measure => have := HK1.out; omega
        case rel => exact ⟨(y104), (wrap64 (x5_1 + 1)), (wrap64 (x11_1 + 1)), (by first | rfl | (simp; done) | (simp [*]; done)), (by first | rfl | (simp; done) | (simp [*]; done)), H', ⟨by have := HK1.out; omega⟩, ⟨by (with_reducible repeat (first | apply Kd.R_alloc | apply Kd.R_drewN | apply Kd.R_drew)); exact HO106.out⟩, ⟨by (with_reducible repeat (first | refine blk_drewN ?_ _ | refine blk_drew ?_ | refine blk_alloc ?_ _)); exact BK101.out⟩, ⟨by repeat (first | (with_reducible first | exact HB.out | apply below_alloc | apply pw_below_drewN | apply below_drew1 | refine below_set ?_ GE101.out | refine below_set ?_ GE103.out) | exact HB.out)⟩⟩
       ·
        replace c9 := Bool.eq_false_iff.mpr c9; subst c9; replace H := iF H; have H' := Aside0.mk H; clear H; have p102 : 0 ≤ (x11_1 : Int) := of_decide_eq_true (by first | (with_reducible assumption) | assumption); have q102 : x11_1 < (l0_2.length : Int) := of_decide_eq_true (by first | (with_reducible assumption) | assumption); obtain ⟨ad102, e102, hx102_0, hx102_1, hx102_2, hx102_3, hx102_4, hx102_5, hx102_6, hx102_7, hx102_8⟩ := at_T88 HR0_2.out x11_1 p102 q102; cases e102
        replace hx102_0 := (HB.out.cell (World.block_lt_of_cell? w _ hx102_0)).trans hx102_0; replace hx102_1 := (HB.out.cell (World.block_lt_of_cell? w _ hx102_1)).trans hx102_1; replace hx102_2 := (HB.out.cell (World.block_lt_of_cell? w _ hx102_2)).trans hx102_2; replace hx102_3 := (HB.out.cell (World.block_lt_of_cell? w _ hx102_3)).trans hx102_3; replace hx102_4 := (HB.out.cell (World.block_lt_of_cell? w _ hx102_4)).trans hx102_4; replace hx102_5 := (HB.out.cell (World.block_lt_of_cell? w _ hx102_5)).trans hx102_5; replace hx102_6 := (HB.out.cell (World.block_lt_of_cell? w _ hx102_6)).trans hx102_6; replace hx102_7 := (HB.out.cell (World.block_lt_of_cell? w _ hx102_7)).trans hx102_7; replace hx102_8 := (HB.out.cell (World.block_lt_of_cell? w _ hx102_8)).trans hx102_8; replace p102 := eq_true p102; replace q102 := eq_true q102; go_wp2_with (first | ((with_reducible refine gate_dst (N := 7) rfl ?_); refine box_event ?hg (N := 7) ?hd (cs := #[.int .i64 0, .int .i64 0, .int .i64 0, .int .i64 0, .int .i64 0, .int .i64 0, .int .i64 0, .int .i64 0, .bool false]) (t := 88) ?hr ?_; (case hd => rfl); (case hg => rfl); (case hr => first | (go_simp; done) | (go_simp; rfl)); intro gb103 hg w16 hbox hb; have n0_ := Aside0.mk (Kd.R_below (oR HO_4.out) hb); have n1_ := Aside0.mk (blk_below (oB BK101.out) hb); have n2_ := Aside0.mk (below_step oL hb); have n3_ := Aside0.mk (hbox); have n4_ := Aside0.mk ((oS hg oL : w.heap.size ≤ gb103)); have n5_ := Aside0.mk ((oS hg oL : w.heap.size ≤ gb103)); have n6_ := Aside0.mk ((oN hg (oB BK101.out) : gb101 ≠ gb103)); have n7_ := Aside0.mk ((oM hg (oB BK101.out) : gb103 ≠ gb101)); clear HO_4; clear BK101; clear HB; have HO_4 := n0_; have BK101 := n1_; have HB := n2_; have BK103 := n3_; have GW103 := n4_; have GE103 := n5_; have NB101_103 := n6_; have NB103_101 := n7_; clear n0_ n1_ n2_ n3_ n4_ n5_ n6_ n7_; clear hb hbox hg; have hnb17 := NB103_101.out; have hnc17 := NB101_103.out; obtain ⟨hcz18_0, hcz18_1, hcz18_2, hcz18_3, hcz18_4, hcz18_5, hcz18_6, hcz18_7, hcz18_8⟩ := cz9 BK103.out; obtain ⟨hfz18_0, hfz18_1, hfz18_2, hfz18_3, hfz18_4, hfz18_5, hfz18_6, hfz18_7, hfz18_8⟩ := fz9 BK103.out) | ((with_reducible refine gate_builtin (b := .append) (xs := #[.tmp 15, .tmp 18]) rfl ?_); at_builtin; refine Kd.R_append k77 (w0 := w) w.heap.size rfl (.tmp 15) (.tmp 18) 27 77 (.agg #[(.int .i64 0), (.int .i64 0), (.int .i64 0), (.int .i64 0), (.int .i64 0), (.int .i64 0), (.int .i64 0)]) 56 rfl Try.underlying27 info77 rfl (by decide) (by omega) u4 x4_1 (⟨(rd_T88 l0_2 x11_1).f0.f0, (rd_T88 l0_2 x11_1).f0.f1, (rd_T88 l0_2 x11_1).f0.f2, (⟨(rd_T88 l0_2 x11_1).f0.f3.f0, (rd_T88 l0_2 x11_1).f0.f3.f1, (rd_T88 l0_2 x11_1).f0.f3.f2⟩ : S75), (rd_T88 l0_2 x11_1).f0.f4⟩ : S77) [.int .i64 ((rd_T88 l0_2 x11_1).f0.f0), .int .i64 ((rd_T88 l0_2 x11_1).f0.f1), .int .i64 ((rd_T88 l0_2 x11_1).f0.f2), .int .i64 ((rd_T88 l0_2 x11_1).f0.f3.f0), .int .i64 ((rd_T88 l0_2 x11_1).f0.f3.f1), .int .i64 ((rd_T88 l0_2 x11_1).f0.f3.f2), .int .i64 ((rd_T88 l0_2 x11_1).f0.f4)] (fun _ => True) (fun _ => False) rfl (by first | (go_simp; done) | (go_simp; rfl)) ?aP (fun _ hk => hk.elim) ?aF ?aO ?aB ?aS ?aL ?_; (case aP => exact k77_mkM _ _ _ (⟨(rd_T88 l0_2 x11_1).f0.f0, (rd_T88 l0_2 x11_1).f0.f1, (rd_T88 l0_2 x11_1).f0.f2, (⟨(rd_T88 l0_2 x11_1).f0.f3.f0, (rd_T88 l0_2 x11_1).f0.f3.f1, (rd_T88 l0_2 x11_1).f0.f3.f2⟩ : S75), (rd_T88 l0_2 x11_1).f0.f4⟩ : S77)); (case aB => exact oL); (case aF => exact (fun _ _ => trivial)); (case aO => exact (by (with_reducible repeat (first | apply Kd.R_alloc | apply Kd.R_drewN | apply Kd.R_drew)); exact Kd.R_mono (oFr HO_4.out BK103.out) (fun _ hk => trivial))); (case aS => exact (below_size oL)); (case aL => have := LMc7.out; omega); intro v105 w19 ho hb hg hat; rw [← Ny104.out] at ho; have n0_ := Aside0.mk (blk_grown (g := gb101) (o := .cells #[.int .i64 a0_0, .int .i64 a0_1, .slice (some ad102) l0_2.length c0_2] 41 (0, 0)) (oG BK101.out NB101_103.out) hg (Kd.R_ne HO_4.out BK101.out (by decide))); have n1_ := Aside0.mk (blk_grown (g := gb103) (o := .cells #[.int .i64 ((rd_T88 l0_2 x11_1).f0.f0), .int .i64 ((rd_T88 l0_2 x11_1).f0.f1), .int .i64 ((rd_T88 l0_2 x11_1).f0.f2), .int .i64 ((rd_T88 l0_2 x11_1).f0.f3.f0), .int .i64 ((rd_T88 l0_2 x11_1).f0.f3.f1), .int .i64 ((rd_T88 l0_2 x11_1).f0.f3.f2), .int .i64 ((rd_T88 l0_2 x11_1).f0.f4), .int .i64 ((rd_T88 l0_2 x11_1).f1), .bool ((rd_T88 l0_2 x11_1).f2)] 88 (0, 0)) (oP BK103.out) hg (Kd.R_ne HO_4.out BK103.out (by decide))); have n2_ := Aside0.mk (hb); have n3_ := Aside0.mk (ho); clear BK101; clear BK103; clear HB; clear HO_4; have BK101 := n0_; have BK103 := n1_; have HB := n2_; have HO106 := n3_; clear n0_ n1_ n2_ n3_; clear ho hb hg hat; obtain ⟨hcz20_0, hcz20_1, hcz20_2, hcz20_3, hcz20_4, hcz20_5, hcz20_6, hcz20_7, hcz20_8⟩ := cz9 BK103.out; obtain ⟨hfz20_0, hfz20_1, hfz20_2, hfz20_3, hfz20_4, hfz20_5, hfz20_6, hfz20_7, hfz20_8⟩ := fz9 BK103.out) | ((with_reducible refine gate_callee (f := 55) rfl ?_); refine goesL_ (some 22) rfl rfl Try.func55 (by kernel_rfl) rfl #[.agg #[.int .i64 ((rd_T88 l0_2 x11_1).f0.f0), .int .i64 ((rd_T88 l0_2 x11_1).f0.f1), .int .i64 ((rd_T88 l0_2 x11_1).f0.f2), .int .i64 ((rd_T88 l0_2 x11_1).f0.f3.f0), .int .i64 ((rd_T88 l0_2 x11_1).f0.f3.f1), .int .i64 ((rd_T88 l0_2 x11_1).f0.f3.f2), .int .i64 ((rd_T88 l0_2 x11_1).f0.f4)]] rfl (by (try simp only [List.map_toArray, List.map_cons, List.map_nil]); first | done | rfl | (simp only [List.length_drop, List.length_take]; rfl)) ?_; (with_reducible refine (spec_l14Straight.calls k1 ((rd_T88 l0_2 x11_1).f0.f0) ((rd_T88 l0_2 x11_1).f0.f1) ((rd_T88 l0_2 x11_1).f0.f2) ((rd_T88 l0_2 x11_1).f0.f3.f0) ((rd_T88 l0_2 x11_1).f0.f3.f1) ((rd_T88 l0_2 x11_1).f0.f3.f2) ((rd_T88 l0_2 x11_1).f0.f4) false _ A8.out).mono ?_); rintro e w21 ⟨rfl, hb⟩; refine ⟨_, rfl, ?_⟩; have n0_ := Aside0.mk (Kd.R_below (oR HO106.out) hb); have n1_ := Aside0.mk (blk_below (oB BK101.out) hb); have n2_ := Aside0.mk (blk_below (oB BK103.out) hb); have n3_ := Aside0.mk (below_step oL hb); clear HO106; clear BK101; clear BK103; clear HB; have HO106 := n0_; have BK101 := n1_; have BK103 := n2_; have HB := n3_; clear n0_ n1_ n2_ n3_; (try clear hb); (try clear hb2); (try clear hk); (try clear hi)))
        go_roundg k1; case measure => have := HK1.out; omega
        case rel => exact ⟨(y104), (x5_1), (wrap64 (x11_1 + 1)), (by first | rfl | (simp; done) | (simp [*]; done)), (by first | rfl | (simp; done) | (simp [*]; done)), H', ⟨by have := HK1.out; omega⟩, ⟨by (with_reducible repeat (first | apply Kd.R_alloc | apply Kd.R_drewN | apply Kd.R_drew)); exact HO106.out⟩, ⟨by (with_reducible repeat (first | refine blk_drewN ?_ _ | refine blk_drew ?_ | refine blk_alloc ?_ _)); exact BK101.out⟩, ⟨by repeat (first | (with_reducible first | exact HB.out | apply below_alloc | apply pw_below_drewN | apply below_drew1 | refine below_set ?_ GE101.out | refine below_set ?_ GE103.out) | exact HB.out)⟩⟩
      · rw [if_neg c7] at H; exact absurd H (by simp)
     · rw [if_neg c6] at H; exact absurd H (by simp)
    · rw [if_neg c5] at H; exact absurd H (by simp)
   · rw [if_neg c4] at H; have c4b0 : decide (x11_1 < (l0_2.length : Int)) = false := decide_eq_false c4; clear c4; simp only [Option.some.injEq, Prod.mk.injEq] at H; obtain ⟨rfl, rfl⟩ := H; go_wp2; go_ret2; exact ⟨_, oE, by (with_reducible repeat (first | apply Kd.R_alloc | apply Kd.R_drewN | apply Kd.R_drew)); exact HO_4.out, oL⟩

/-! ### spec_l1In: function 52 -/
def spec_l1In.f (a0 : Int) (a1 : Int) (a2 : Int) : Option (Bool) := if a0 ≥ a1 then (some (decide (a0 ≤ a2))) else (some false)
set_option maxHeartbeats 8000000 in
set_option maxRecDepth 100000 in
theorem spec_l1In.calls (a0 : Int) (a1 : Int) (a2 : Int) (r : Bool) (w : World) (h : spec_l1In.f a0 a1 a2 = some r) :
  Calls Try.prog 52 #[.int .i64 a0, .int .i64 a1, .int .i64 a2] w fun e w' => e = .returned (.bool r) ∧ Drawn0 w w' := by
 have H : (if a0 ≥ a1 then (some (decide (a0 ≤ a2))) else (some false)) = some r := h; clear h; by_cases c4 : a0 ≥ a1
 · rw [if_pos c4] at H; have c4b0 : decide (a1 ≤ a0) = true := decide_eq_true c4; clear c4; obtain rfl := Option.some.inj H; go_enter Try.func52, Try.ntmps52; go_wp2; go_ret; exact ⟨by first | rfl | (simp; done) | (simp [*]; done), by repeat (first | exact Drawn0.refl _ | apply Drawn0.step)⟩
 · rw [if_neg c4] at H; have c4b0 : decide (a1 ≤ a0) = false := decide_eq_false c4; clear c4; obtain rfl := Option.some.inj H; go_enter Try.func52, Try.ntmps52; go_wp2; go_ret; exact ⟨by first | rfl | (simp; done) | (simp [*]; done), by repeat (first | exact Drawn0.refl _ | apply Drawn0.step)⟩

/-! ### spec_l1Size: function 66 -/
def spec_l1Size.f (a0 : Int) : Option (Bool) := if a0 = 1 then (some true) else (some (a0 == 2))
set_option maxHeartbeats 8000000 in
set_option maxRecDepth 100000 in
theorem spec_l1Size.calls (a0 : Int) (r : Bool) (w : World) (h : spec_l1Size.f a0 = some r) :
  Calls Try.prog 66 #[.int .i64 a0] w fun e w' => e = .returned (.bool r) ∧ Drawn0 w w' := by
 have H : (if a0 = 1 then (some true) else (some (a0 == 2))) = some r := h; clear h; by_cases c2 : a0 = 1
 · rw [if_pos c2] at H; obtain ⟨c2b0, c2b1⟩ := eT c2; clear c2; obtain rfl := Option.some.inj H; go_enter Try.func66, Try.ntmps66; go_wp2; go_ret; exact ⟨by first | rfl | (simp; done) | (simp [*]; done), by repeat (first | exact Drawn0.refl _ | apply Drawn0.step)⟩
 · rw [if_neg c2] at H; obtain ⟨c2b0, c2b1⟩ := eF c2; obtain rfl := Option.some.inj H; go_enter Try.func66, Try.ntmps66; go_wp2; go_ret; exact ⟨by first | rfl | (simp; done) | (simp [*]; done), by repeat (first | exact Drawn0.refl _ | apply Drawn0.step)⟩

/-! ### spec_l6Ext: function 106 -/
def spec_l6Ext.f (a0 : Int) : Option (Bool) := some (decide (a0 ≥ 5))
set_option maxHeartbeats 8000000 in
set_option maxRecDepth 100000 in
theorem spec_l6Ext.calls (a0 : Int) (r : Bool) (w : World) (h : spec_l6Ext.f a0 = some r) :
  Calls Try.prog 106 #[.int .i64 a0] w fun e w' => e = .returned (.bool r) ∧ Drawn0 w w' := by
 have H : (some (decide (a0 ≥ 5))) = some r := h; clear h; obtain rfl := Option.some.inj H; go_enter Try.func106, Try.ntmps106; go_wp2; go_ret; exact ⟨by first | rfl | (simp; done) | (simp [*]; done), by repeat (first | exact Drawn0.refl _ | apply Drawn0.step)⟩

/-! ### spec_l6Word: function 126 -/
def spec_l6Word.f (a0 : Int) : Option (Bool) := (spec_l1In.f a0 0 65535).bind fun t101 => (some t101)
set_option maxHeartbeats 8000000 in
set_option maxRecDepth 100000 in
theorem spec_l6Word.calls (a0 : Int) (r : Bool) (w : World) (h : spec_l6Word.f a0 = some r) :
  Calls Try.prog 126 #[.int .i64 a0] w fun e w' => e = .returned (.bool r) ∧ Drawn0 w w' := by
 have H : ((spec_l1In.f a0 0 65535).bind fun t101 => (some t101)) = some r := h; clear h; obtain ⟨t101, A20, H⟩ := bE H; have A2 := Aside0.mk A20; clear A20; obtain rfl := Option.some.inj H; go_enter Try.func126, Try.ntmps126; go_wp2_with (first | ((with_reducible refine gate_callee (f := 52) rfl ?_); refine goesQ (some 4) Try.func52 #[.int .i64 a0, .int .i64 0, .int .i64 65535] (spec_l1In.calls a0 0 65535 t101 _ A2.out) fun nd => ?_))
 go_ret; exact ⟨by first | rfl | (simp; done) | (simp [*]; done), by repeat (first | exact Drawn0.refl _ | apply Drawn0.step)⟩

/-! ### spec_GoodOperand: function 101 -/
def spec_GoodOperand.j0 : Nat → Bool → Int → Int → Int → Option (Bool)
 | 0, _, _, _, _ => none
 | k + 1, x22, x102000, x102001, x102002 => if x22 = true then (some false) else ((spec_l6Word.f x102002).bind fun t104 => (if t104 = true then ((spec_l6Ext.f x102000).bind fun t105 => (if t105 = true then (some true) else (some (x102002 == 0)))) else (some false)))
def spec_GoodOperand.f (k : Nat) (a0_0 : Int) (a0_1 : Int) (a0_2 : Int) : Option (Bool) := (spec_l1In.f a0_0 0 7).bind fun t102 => (if t102 = true then ((spec_l1In.f a0_1 0 3).bind fun t103 => (if t103 = true then (if a0_0 ≥ 6 then (spec_GoodOperand.j0 k (a0_1 != 0) a0_0 a0_1 a0_2) else (spec_GoodOperand.j0 k false a0_0 a0_1 a0_2)) else (spec_GoodOperand.j0 k true a0_0 a0_1 a0_2))) else (spec_GoodOperand.j0 k true a0_0 a0_1 a0_2))
theorem spec_GoodOperand.mono_l : ∀ k, (∀ y0 y1 y2 y3, LeO (spec_GoodOperand.j0 k y0 y1 y2 y3) (spec_GoodOperand.j0 (k + 1) y0 y1 y2 y3))
 | 0 => fun _ _ _ _ r h => by simp [spec_GoodOperand.j0] at h
 | k + 1 => by
  have ih0 := spec_GoodOperand.mono_l k
  ·
   intro y0 y1 y2 y3
   unfold spec_GoodOperand.j0
   repeat' first
   | (with_reducible exact ih0 _ _ _ _)
   | (with_reducible exact LeO.refl _)
   | (with_reducible exact LeO.none _)
   | (with_reducible refine LeO.ite ?_ ?_)
   | (with_reducible refine LeO.bind ?_ (fun _ => ?_))
   | exact ih0 _ _ _ _
   | exact LeO.none _
   | refine LeO.ite ?_ ?_
   | refine LeO.bind ?_ (fun _ => ?_)
theorem spec_GoodOperand.mono : ∀ a0 a1 a2 k, LeO (spec_GoodOperand.f k a0 a1 a2) (spec_GoodOperand.f (k + 1) a0 a1 a2) := by
 intro a0 a1 a2 k
 have ih0 := spec_GoodOperand.mono_l k
 unfold spec_GoodOperand.f
 repeat' first
   | (with_reducible exact ih0 _ _ _ _)
   | (with_reducible exact LeO.refl _)
   | (with_reducible exact LeO.none _)
   | (with_reducible refine LeO.ite ?_ ?_)
   | (with_reducible refine LeO.bind ?_ (fun _ => ?_))
   | exact ih0 _ _ _ _
   | exact LeO.none _
   | refine LeO.ite ?_ ?_
   | refine LeO.bind ?_ (fun _ => ?_)
set_option maxHeartbeats 8000000 in
set_option maxRecDepth 100000 in
theorem spec_GoodOperand.calls (k : Nat) (a0_0 : Int) (a0_1 : Int) (a0_2 : Int) (r : Bool) (w : World) (h : spec_GoodOperand.f k a0_0 a0_1 a0_2 = some r) :
  Calls Try.prog 101 #[.agg #[.int .i64 a0_0, .int .i64 a0_1, .int .i64 a0_2]] w fun e w' => e = .returned (.bool r) ∧ Below w.heap.size w w' := by
 have hu75 := Try.underlying75; have HB := Aside0.mk (Below.refl w.heap.size w); have H : ((spec_l1In.f a0_0 0 7).bind fun t102 => (if t102 = true then ((spec_l1In.f a0_1 0 3).bind fun t103 => (if t103 = true then (if a0_0 ≥ 6 then (spec_GoodOperand.j0 k (a0_1 != 0) a0_0 a0_1 a0_2) else (spec_GoodOperand.j0 k false a0_0 a0_1 a0_2)) else (spec_GoodOperand.j0 k true a0_0 a0_1 a0_2))) else (spec_GoodOperand.j0 k true a0_0 a0_1 a0_2))) = some r := h; clear h; have HC2 := Aside0.mk H; clear H; go_enter Try.func101, Try.ntmps101; go_upto_region 1 with (first | ((with_reducible refine gate_dst (N := 1) rfl ?_); refine boxE (w := w) oL (cs := #[.int .i64 a0_0, .int .i64 a0_1, .int .i64 a0_2]) (t := 75) ?_; clear HB; intro gb101 w3 HB BK101 GW101; have GE101 := GW101))
 (try simp only [Act.put, List.setIfInBounds_toArray, List.set_cons_zero, List.set_cons_succ]); go_cut [22] (fun v22 wc => ∃ (kq : Nat) (x22_1 : Bool), v22 = .bool x22_1 ∧ Aside0 (spec_GoodOperand.j0 kq x22_1 a0_0 a0_1 a0_2 = some r) ∧ Aside0 (kq ≤ k) ∧ Aside0 (wc.heap[gb101]? = some (.cells #[.int .i64 a0_0, .int .i64 a0_1, .int .i64 a0_2] 75 (0, 0))) ∧ Aside0 (Below w.heap.size w wc))
 case first =>
  have H := HC2.out; clear HC2; obtain ⟨t102, A40, H⟩ := bE H; have A4 := Aside0.mk A40; clear A40; by_cases c5 : t102 = true
  ·
   subst c5; replace H := iT H; obtain ⟨t103, A60, H⟩ := bE H; have A6 := Aside0.mk A60; clear A60; by_cases c7 : t103 = true
   ·
    subst c7; replace H := iT H; by_cases c8 : a0_0 ≥ 6
    ·
     rw [if_pos c8] at H; have c8b0 : decide (6 ≤ a0_0) = true := decide_eq_true c8; clear c8; (first | rw [c8b0] | (simp only [i64_w, i32_w]; rw [c8b0]) | skip); have H' := Aside0.mk H; clear H; obtain ⟨hcz9_0, hcz9_1, hcz9_2⟩ := cz3 BK101.out; obtain ⟨hfz9_0, hfz9_1, hfz9_2⟩ := fz3 BK101.out; go_wp2_with (first | ((with_reducible refine gate_callee (f := 52) rfl ?_); refine goesQ (some 5) Try.func52 #[.int .i64 a0_0, .int .i64 0, .int .i64 7] (spec_l1In.calls a0_0 0 7 true _ A4.out) fun nd => ?_) | (go_at_call 52; (with_reducible refine (spec_l1In.calls a0_1 0 3 true _ A6.out).mono ?_); rintro e w' ⟨rfl, ⟨nd, rfl⟩⟩))
     go_meet; case rel => exact ⟨_, ((a0_1 != 0)), (by first | rfl | (simp; done) | (simp [*]; done)), H', ⟨by first | omega | exact Nat.le_refl _⟩, ⟨by (with_reducible repeat (first | refine blk_drewN ?_ _ | refine blk_drew ?_ | refine blk_alloc ?_ _)); exact BK101.out⟩, ⟨by repeat (first | (with_reducible first | exact HB.out | apply below_alloc | apply pw_below_drewN | apply below_drew1 | refine below_set ?_ GE101.out) | exact HB.out)⟩⟩
    ·
     rw [if_neg c8] at H; have c8b0 : decide (6 ≤ a0_0) = false := decide_eq_false c8; clear c8; (first | rw [c8b0] | (simp only [i64_w, i32_w]; rw [c8b0]) | skip); have H' := Aside0.mk H; clear H; obtain ⟨hcz10_0, hcz10_1, hcz10_2⟩ := cz3 BK101.out; obtain ⟨hfz10_0, hfz10_1, hfz10_2⟩ := fz3 BK101.out; go_wp2_with (first | ((with_reducible refine gate_callee (f := 52) rfl ?_); refine goesQ (some 5) Try.func52 #[.int .i64 a0_0, .int .i64 0, .int .i64 7] (spec_l1In.calls a0_0 0 7 true _ A4.out) fun nd => ?_) | (go_at_call 52; (with_reducible refine (spec_l1In.calls a0_1 0 3 true _ A6.out).mono ?_); rintro e w' ⟨rfl, ⟨nd, rfl⟩⟩))
     go_meet; case rel => exact ⟨_, (false), (by first | rfl | (simp; done) | (simp [*]; done)), H', ⟨by first | omega | exact Nat.le_refl _⟩, ⟨by (with_reducible repeat (first | refine blk_drewN ?_ _ | refine blk_drew ?_ | refine blk_alloc ?_ _)); exact BK101.out⟩, ⟨by repeat (first | (with_reducible first | exact HB.out | apply below_alloc | apply pw_below_drewN | apply below_drew1 | refine below_set ?_ GE101.out) | exact HB.out)⟩⟩
   ·
    replace c7 := Bool.eq_false_iff.mpr c7; subst c7; replace H := iF H; have H' := Aside0.mk H; clear H; obtain ⟨hcz11_0, hcz11_1, hcz11_2⟩ := cz3 BK101.out; obtain ⟨hfz11_0, hfz11_1, hfz11_2⟩ := fz3 BK101.out; go_wp2_with (first | ((with_reducible refine gate_callee (f := 52) rfl ?_); refine goesQ (some 5) Try.func52 #[.int .i64 a0_0, .int .i64 0, .int .i64 7] (spec_l1In.calls a0_0 0 7 true _ A4.out) fun nd => ?_) | (go_at_call 52; (with_reducible refine (spec_l1In.calls a0_1 0 3 false _ A6.out).mono ?_); rintro e w' ⟨rfl, ⟨nd, rfl⟩⟩))
    go_meet; case rel => exact ⟨_, (true), (by first | rfl | (simp; done) | (simp [*]; done)), H', ⟨by first | omega | exact Nat.le_refl _⟩, ⟨by (with_reducible repeat (first | refine blk_drewN ?_ _ | refine blk_drew ?_ | refine blk_alloc ?_ _)); exact BK101.out⟩, ⟨by repeat (first | (with_reducible first | exact HB.out | apply below_alloc | apply pw_below_drewN | apply below_drew1 | refine below_set ?_ GE101.out) | exact HB.out)⟩⟩
  ·
   replace c5 := Bool.eq_false_iff.mpr c5; subst c5; replace H := iF H; have H' := Aside0.mk H; clear H; obtain ⟨hcz12_0, hcz12_1, hcz12_2⟩ := cz3 BK101.out; obtain ⟨hfz12_0, hfz12_1, hfz12_2⟩ := fz3 BK101.out; go_wp2_with (first | ((with_reducible refine gate_callee (f := 52) rfl ?_); refine goesQ (some 5) Try.func52 #[.int .i64 a0_0, .int .i64 0, .int .i64 7] (spec_l1In.calls a0_0 0 7 false _ A4.out) fun nd => ?_))
   go_meet; case rel => exact ⟨_, (true), (by first | rfl | (simp; done) | (simp [*]; done)), H', ⟨by first | omega | exact Nat.le_refl _⟩, ⟨by (with_reducible repeat (first | refine blk_drewN ?_ _ | refine blk_drew ?_ | refine blk_alloc ?_ _)); exact BK101.out⟩, ⟨by repeat (first | (with_reducible first | exact HB.out | apply below_alloc | apply pw_below_drewN | apply below_drew1 | refine below_set ?_ GE101.out) | exact HB.out)⟩⟩
 case rest =>
  clear HC2; (try clear c1); (try clear p2); (try clear c5); (try clear c7); (try clear c8); (try clear c8b0); (try clear c10); (try clear hcz10_0 hcz10_1 hcz10_2); (try clear hcz11_0 hcz11_1 hcz11_2); (try clear hcz12_0 hcz12_1 hcz12_2); (try clear hcz9_0 hcz9_1 hcz9_2); (try clear hfz10_0 hfz10_1 hfz10_2); (try clear hfz11_0 hfz11_1 hfz11_2); (try clear hfz12_0 hfz12_1 hfz12_2); (try clear hfz9_0 hfz9_1 hfz9_2); obtain ⟨kq, x22_1, rfl, HA, HJ1, BK101, HB⟩ := hcut; cases kq with
  | zero => exact absurd HA.out (by simp [spec_GoodOperand.j0])
  | succ kj1 =>
   have H := HA.out; clear HA; simp only [spec_GoodOperand.j0] at H; by_cases c13 : x22_1 = true
   · subst c13; replace H := iT H; obtain rfl := Option.some.inj H; go_wp2; go_ret; exact ⟨oE, oL⟩
   ·
    replace c13 := Bool.eq_false_iff.mpr c13; subst c13; replace H := iF H; obtain ⟨t104, A140, H⟩ := bE H; have A14 := Aside0.mk A140; clear A140; by_cases c15 : t104 = true
    ·
     subst c15; replace H := iT H; obtain ⟨t105, A160, H⟩ := bE H; have A16 := Aside0.mk A160; clear A160; by_cases c17 : t105 = true
     ·
      subst c17; replace H := iT H; obtain rfl := Option.some.inj H; obtain ⟨hcz18_0, hcz18_1, hcz18_2⟩ := cz3 BK101.out; obtain ⟨hfz18_0, hfz18_1, hfz18_2⟩ := fz3 BK101.out; go_wp2_with (first | ((with_reducible refine gate_callee (f := 126) rfl ?_); refine goesQ (some 25) Try.func126 #[.int .i64 a0_2] (spec_l6Word.calls a0_2 true _ A14.out) fun nd => ?_) | (go_at_call 106; (with_reducible refine (spec_l6Ext.calls a0_0 true _ A16.out).mono ?_); rintro e w' ⟨rfl, ⟨nd, rfl⟩⟩))
      go_ret; exact ⟨oE, oL⟩
     ·
      replace c17 := Bool.eq_false_iff.mpr c17; subst c17; replace H := iF H; obtain rfl := Option.some.inj H; obtain ⟨hcz19_0, hcz19_1, hcz19_2⟩ := cz3 BK101.out; obtain ⟨hfz19_0, hfz19_1, hfz19_2⟩ := fz3 BK101.out; go_wp2_with (first | ((with_reducible refine gate_callee (f := 126) rfl ?_); refine goesQ (some 25) Try.func126 #[.int .i64 a0_2] (spec_l6Word.calls a0_2 true _ A14.out) fun nd => ?_) | (go_at_call 106; (with_reducible refine (spec_l6Ext.calls a0_0 false _ A16.out).mono ?_); rintro e w' ⟨rfl, ⟨nd, rfl⟩⟩))
      go_ret; exact ⟨oE, oL⟩
    ·
     replace c15 := Bool.eq_false_iff.mpr c15; subst c15; replace H := iF H; obtain rfl := Option.some.inj H; obtain ⟨hcz20_0, hcz20_1, hcz20_2⟩ := cz3 BK101.out; obtain ⟨hfz20_0, hfz20_1, hfz20_2⟩ := fz3 BK101.out; go_wp2_with (first | ((with_reducible refine gate_callee (f := 126) rfl ?_); refine goesQ (some 25) Try.func126 #[.int .i64 a0_2] (spec_l6Word.calls a0_2 false _ A14.out) fun nd => ?_))
     go_ret; exact ⟨oE, oL⟩

/-! ### spec_l7Memory: function 102 -/
def spec_l7Memory.f (a0 : Int) : Option (Bool) := (spec_l1In.f a0 2 6).bind fun t101 => (some t101)
set_option maxHeartbeats 8000000 in
set_option maxRecDepth 100000 in
theorem spec_l7Memory.calls (a0 : Int) (r : Bool) (w : World) (h : spec_l7Memory.f a0 = some r) :
  Calls Try.prog 102 #[.int .i64 a0] w fun e w' => e = .returned (.bool r) ∧ Drawn0 w w' := by
 have H : ((spec_l1In.f a0 2 6).bind fun t101 => (some t101)) = some r := h; clear h; obtain ⟨t101, A20, H⟩ := bE H; have A2 := Aside0.mk A20; clear A20; obtain rfl := Option.some.inj H; go_enter Try.func102, Try.ntmps102; go_wp2_with (first | ((with_reducible refine gate_callee (f := 52) rfl ?_); refine goesQ (some 4) Try.func52 #[.int .i64 a0, .int .i64 2, .int .i64 6] (spec_l1In.calls a0 2 6 t101 _ A2.out) fun nd => ?_))
 go_ret; exact ⟨by first | rfl | (simp; done) | (simp [*]; done), by repeat (first | exact Drawn0.refl _ | apply Drawn0.step)⟩

/-! ### spec_l7Plain: function 103 -/
def spec_l7Plain.f (a0 : Int) : Option (Bool) := if a0 = 2 then (some true) else (if a0 = 5 then (some true) else (some (a0 == 6)))
set_option maxHeartbeats 8000000 in
set_option maxRecDepth 100000 in
theorem spec_l7Plain.calls (a0 : Int) (r : Bool) (w : World) (h : spec_l7Plain.f a0 = some r) :
  Calls Try.prog 103 #[.int .i64 a0] w fun e w' => e = .returned (.bool r) ∧ Drawn0 w w' := by
 have H : (if a0 = 2 then (some true) else (if a0 = 5 then (some true) else (some (a0 == 6)))) = some r := h; clear h; by_cases c2 : a0 = 2
 · rw [if_pos c2] at H; obtain ⟨c2b0, c2b1⟩ := eT c2; clear c2; obtain rfl := Option.some.inj H; go_enter Try.func103, Try.ntmps103; go_wp2; go_ret; exact ⟨by first | rfl | (simp; done) | (simp [*]; done), by repeat (first | exact Drawn0.refl _ | apply Drawn0.step)⟩
 ·
  rw [if_neg c2] at H; obtain ⟨c2b0, c2b1⟩ := eF c2; by_cases c3 : a0 = 5
  · rw [if_pos c3] at H; obtain ⟨c3b0, c3b1⟩ := eT c3; clear c3; obtain rfl := Option.some.inj H; go_enter Try.func103, Try.ntmps103; go_wp2; go_ret; exact ⟨by first | rfl | (simp; done) | (simp [*]; done), by repeat (first | exact Drawn0.refl _ | apply Drawn0.step)⟩
  · rw [if_neg c3] at H; obtain ⟨c3b0, c3b1⟩ := eF c3; obtain rfl := Option.some.inj H; go_enter Try.func103, Try.ntmps103; go_wp2; go_ret; exact ⟨by first | rfl | (simp; done) | (simp [*]; done), by repeat (first | exact Drawn0.refl _ | apply Drawn0.step)⟩

/-! ### spec_l7Now: function 104 -/
def spec_l7Now.f (a0_0 : Int) (a0_1 : Int) (a0_2 : Int) : Option (Bool) := if a0_0 = 7 then (some (decide (a0_2 ≤ 1023))) else (some false)
set_option maxHeartbeats 8000000 in
set_option maxRecDepth 100000 in
theorem spec_l7Now.calls (a0_0 : Int) (a0_1 : Int) (a0_2 : Int) (r : Bool) (w : World) (h : spec_l7Now.f a0_0 a0_1 a0_2 = some r) :
  Calls Try.prog 104 #[.agg #[.int .i64 a0_0, .int .i64 a0_1, .int .i64 a0_2]] w fun e w' => e = .returned (.bool r) ∧ Below w.heap.size w w' := by
 have hu75 := Try.underlying75; have HB := Aside0.mk (Below.refl w.heap.size w); have H : (if a0_0 = 7 then (some (decide (a0_2 ≤ 1023))) else (some false)) = some r := h; clear h; by_cases c2 : a0_0 = 7
 ·
  rw [if_pos c2] at H; obtain ⟨c2b0, c2b1⟩ := eT c2; clear c2; obtain rfl := Option.some.inj H; go_enter Try.func104, Try.ntmps104; go_wp2_with (first | ((with_reducible refine gate_dst (N := 1) rfl ?_); refine boxE (w := w) oL (cs := #[.int .i64 a0_0, .int .i64 a0_1, .int .i64 a0_2]) (t := 75) ?_; clear HB; intro gb101 w3 HB BK101 GW101; have GE101 := GW101; obtain ⟨hcz4_0, hcz4_1, hcz4_2⟩ := cz3 BK101.out; obtain ⟨hfz4_0, hfz4_1, hfz4_2⟩ := fz3 BK101.out))
  go_ret; exact ⟨oE, oL⟩
 ·
  rw [if_neg c2] at H; obtain ⟨c2b0, c2b1⟩ := eF c2; obtain rfl := Option.some.inj H; go_enter Try.func104, Try.ntmps104; go_wp2_with (first | ((with_reducible refine gate_dst (N := 1) rfl ?_); refine boxE (w := w) oL (cs := #[.int .i64 a0_0, .int .i64 a0_1, .int .i64 a0_2]) (t := 75) ?_; clear HB; intro gb101 w5 HB BK101 GW101; have GE101 := GW101; obtain ⟨hcz6_0, hcz6_1, hcz6_2⟩ := cz3 BK101.out; obtain ⟨hfz6_0, hfz6_1, hfz6_2⟩ := fz3 BK101.out))
  go_ret; exact ⟨oE, oL⟩

/-! ### spec_l7Zero: function 105 -/
def spec_l7Zero.f (a0_0 : Int) (a0_1 : Int) (a0_2 : Int) : Option (Bool) := some (a0_0 == 0 && (a0_1 == 0 && (a0_2 == 0)))
set_option maxHeartbeats 8000000 in
set_option maxRecDepth 100000 in
theorem spec_l7Zero.calls (a0_0 : Int) (a0_1 : Int) (a0_2 : Int) (r : Bool) (w : World) (h : spec_l7Zero.f a0_0 a0_1 a0_2 = some r) :
  Calls Try.prog 105 #[.agg #[.int .i64 a0_0, .int .i64 a0_1, .int .i64 a0_2]] w fun e w' => e = .returned (.bool r) ∧ Below w.heap.size w w' := by
 have hu75 := Try.underlying75; have HB := Aside0.mk (Below.refl w.heap.size w); have H : (some (a0_0 == 0 && (a0_1 == 0 && (a0_2 == 0)))) = some r := h; clear h; obtain rfl := Option.some.inj H; go_enter Try.func105, Try.ntmps105; go_wp2_with (first | ((with_reducible refine gate_dst (N := 1) rfl ?_); refine boxE (w := w) oL (cs := #[.int .i64 a0_0, .int .i64 a0_1, .int .i64 a0_2]) (t := 75) ?_; clear HB; intro gb101 w2 HB BK101 GW101; have GE101 := GW101; obtain ⟨hcz3_0, hcz3_1, hcz3_2⟩ := cz3 BK101.out; obtain ⟨hfz3_0, hfz3_1, hfz3_2⟩ := fz3 BK101.out))
 go_ret; exact ⟨oE, oL⟩

end Go.Proofs.Ytjnifnhpnccpcaa.L
