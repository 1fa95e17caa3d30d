-- Made by this session's program gprint.py out of the translation. Not trusted: Lean checks it.
import Derived.Test.YtapfngfaiojmhaaGreatRx0
import Derived.Test.YtapfngfaiojmhaaGreatRx1
import Derived.Test.YtapfngfaiojmhaaGreatRx3
import Derived.Test.YtapfngfaiojmhaaGreatRx4
namespace Go.Proofs.YtapfngfaiojmhaaGreat.R
open Go.RowKit Go.Proofs.YtapfngfaiojmhaaGreatW.PrintWords Go.Proofs.YtapfngfaiojmhaaGreatW.PrintLast Go.Proofs.YtapfngfaiojmhaaGreatW.PrintMore
attribute [local go_sem] max2_int min2_int max_two min_two max_three min_three max_four min_four   -- for this text's walks alone
set_option linter.unusedVariables false
set_option linter.unusedSimpArgs false

attribute [local go_sem high] eqA72
/-! ### spec_l15List: function 31 -/
def spec_l15List.l0 : Nat → List (S74) → Int → List (S76) → Int → Int → Option ((List (S74)) × Int)
 | 0,_,_,_,_,_ => none
 | k + 1,x4,x5,x9,x10,x11 => if x11 < x10 then (if 0 ≤ x11 then (if x11 < (x9.length : Int) then (if x4.length < 2513169434916 then ((some (x4 ++ [(⟨(rd_T76 x9 x11).f0.f0,(rd_T76 x9 x11).f0.f1,(rd_T76 x9 x11).f0.f2,(⟨(rd_T76 x9 x11).f0.f3.f0,(rd_T76 x9 x11).f0.f3.f1,(rd_T76 x9 x11).f0.f3.f2⟩ : S72),(rd_T76 x9 x11).f0.f4⟩ : S74)] : List (S74))).bind fun y104 => ((spec_l14Straight.f k ((rd_T76 x9 x11).f0.f0) ((rd_T76 x9 x11).f0.f1) ((rd_T76 x9 x11).f0.f2) ((rd_T76 x9 x11).f0.f3.f0) ((rd_T76 x9 x11).f0.f3.f1) ((rd_T76 x9 x11).f0.f3.f2) ((rd_T76 x9 x11).f0.f4)).bind fun t107 => (if t107 = true then (spec_l15List.l0 k y104 (wrap64 (x5 + 1)) x9 x10 (wrap64 (x11 + 1))) else (spec_l15List.l0 k y104 x5 x9 x10 (wrap64 (x11 + 1)))))) else (none)) else (none)) else (none)) else (some (x4,x5))
def spec_l15List.f (k : Nat) (a0_0 : Int) (a0_1 : Int) (l0_2 : List (S76)) : Option ((List (S74)) × Int) := spec_l15List.l0 k ([] : List (S74)) 0 l0_2 (l0_2.length : Int) 0
theorem spec_l15List.mono_l : ∀ k,(∀ y0 y1 y2 y3 y4,LeO (spec_l15List.l0 k y0 y1 y2 y3 y4) (spec_l15List.l0 (k + 1) y0 y1 y2 y3 y4))
 | 0 => fun _ _ _ _ _ r h => by simp [spec_l15List.l0] at h
 | k + 1 => by
  have ih0 := spec_l15List.mono_l k
  ·
   intro y0 y1 y2 y3 y4
   unfold spec_l15List.l0
   repeat' first
   | (with_reducible exact ih0 _ _ _ _ _)
   | (with_reducible exact spec_l14Straight.mono _ _ _ _ _ _ _ _)
   | (with_reducible exact LeO.refl _)
   | (with_reducible exact LeO.none _)
   | (with_reducible refine LeO.ite ?_ ?_)
   | (with_reducible refine LeO.bind ?_ (fun _ => ?_))
theorem spec_l15List.mono : ∀ a0 a1 a2 k,LeO (spec_l15List.f k a0 a1 a2) (spec_l15List.f (k + 1) a0 a1 a2) := by
 intro a0 a1 a2 k
 have ih0 := spec_l15List.mono_l k
 unfold spec_l15List.f
 repeat' first
   | (with_reducible exact ih0 _ _ _ _ _)
   | (with_reducible exact spec_l14Straight.mono _ _ _ _ _ _ _ _)
   | (with_reducible exact LeO.refl _)
   | (with_reducible exact LeO.none _)
   | (with_reducible refine LeO.ite ?_ ?_)
   | (with_reducible refine LeO.bind ?_ (fun _ => ?_))
set_option maxHeartbeats 8000000 in
set_option maxRecDepth 100000 in
theorem spec_l15List.calls (k : Nat) (a0_0 : Int) (a0_1 : Int) (A0_2 : Option Addr) (c0_2 : Nat) (l0_2 : List (S76)) (r1 : List (S74)) (r2 : Int) (w : World) (hr0_2 : Kd.C k76 w A0_2 l0_2.length l0_2) (hc0_2 : l0_2.length ≤ c0_2) (h : spec_l15List.f k a0_0 a0_1 l0_2 = some (r1,r2)) :
  Calls Tryz.prog 31 #[.agg #[.int .i64 a0_0,.int .i64 a0_1,.slice A0_2 l0_2.length c0_2]] w fun e w' => ∃ v0_ : Value,e = .returned (.tuple #[v0_,.int .i64 r2]) ∧ Kd.R k74 74 w' w.heap.size (fun _ => True) v0_ r1 ∧ Below w.heap.size w w' := by
 have hu46 := Tryz.underlying46;have hu76 := Tryz.underlying76;have hu74 := Tryz.underlying74;have HR0_2 := aS hr0_2;have HC0_2 := aS hc0_2;clear hr0_2 hc0_2;have HB := aS (Below.refl w.heap.size w);have H : (spec_l15List.l0 k ([] : List (S74)) 0 l0_2 (l0_2.length : Int) 0) = some (r1,r2) := h;clear h;have H' := aS H;clear H;go_enter Tryz.func31,Tryz.ntmps31;go_wp2_with (first | ((with_reducible refine gate_dst (N := 1) rfl ?_);refine boxE (w := w) oL (cs := #[.int .i64 a0_0,.int .i64 a0_1,.slice A0_2 l0_2.length c0_2]) (t := 46) ?_;clear HB;intro gb101 w2 HB BK101 GW101;have GE101 := GW101;refine zz3 BK101.out ?_;intros));go_loopg [4,5,11] k (fun kq v4 v5 v11 w' => ∃ (x4_1 : List (S74)) (x5_1 : Int) (x11_1 : Int),v5 = .int .i64 x5_1 ∧ v11 = .int .i64 x11_1 ∧ Aside0 (spec_l15List.l0 kq x4_1 x5_1 l0_2 (l0_2.length : Int) x11_1 = some (r1,r2)) ∧ Aside0 (kq ≤ k) ∧ Aside0 (Kd.R k74 74 w' w.heap.size (fun _ => True) v4 x4_1) ∧ Aside0 (w'.heap[gb101]? = some (.cells #[.int .i64 a0_0,.int .i64 a0_1,(.slice A0_2 l0_2.length c0_2)] 46 (0,0))) ∧ Aside0 (Below w.heap.size w w'))
 case atStart => exact ⟨(([] : List (S74))),(0),(0),oE,oE,H',⟨Nat.le_refl _⟩,⟨by first | exact Kd.R_nil _ _ _ _ _ | exact Kd.N_nil _ _ _ _ _ | exact Kd.V_nil _ _ _ _ _ | exact Kd.Q_nil _ _ _ _ _ | exact Kd.S_nil _ _ _ _ _⟩,⟨oB BK101.out⟩,⟨oL⟩⟩
 case round =>
  clear H';obtain ⟨x4_1,x5_1,x11_1,rfl,rfl,HA,HK1,HO_4,BK101,HB⟩ := hrel;cases gk with
  | zero => exact absurd HA.out (by simp [spec_l15List.l0])
  | succ k1 =>
   have H := HA.out;clear HA;simp only [spec_l15List.l0] at H;by_cases c4 : x11_1 < (l0_2.length : Int)
   ·
    rw [if_pos c4] at H;have c4b0 : decide (x11_1 < (l0_2.length : Int)) = true := decide_eq_true c4;clear c4;by_cases c5 : 0 ≤ x11_1
    ·
     rw [if_pos c5] at H;have c5b0 : decide (0 ≤ x11_1) = true := decide_eq_true c5;clear c5;by_cases c6 : x11_1 < (l0_2.length : Int)
     ·
      rw [if_pos c6] at H;have c6b0 : decide (x11_1 < (l0_2.length : Int)) = true := decide_eq_true c6;clear c6;by_cases c7 : x4_1.length < 2513169434916
      ·
       rw [if_pos c7] at H;have LMc7 := aS c7;clear c7;obtain ⟨y104,hy104⟩ : ∃ y_ : List (S74),y_ = (x4_1 ++ [(⟨(rd_T76 l0_2 x11_1).f0.f0,(rd_T76 l0_2 x11_1).f0.f1,(rd_T76 l0_2 x11_1).f0.f2,(⟨(rd_T76 l0_2 x11_1).f0.f3.f0,(rd_T76 l0_2 x11_1).f0.f3.f1,(rd_T76 l0_2 x11_1).f0.f3.f2⟩ : S72),(rd_T76 l0_2 x11_1).f0.f4⟩ : S74)]) := ⟨_,rfl⟩;replace H : ((spec_l14Straight.f k1 ((rd_T76 l0_2 x11_1).f0.f0) ((rd_T76 l0_2 x11_1).f0.f1) ((rd_T76 l0_2 x11_1).f0.f2) ((rd_T76 l0_2 x11_1).f0.f3.f0) ((rd_T76 l0_2 x11_1).f0.f3.f1) ((rd_T76 l0_2 x11_1).f0.f3.f2) ((rd_T76 l0_2 x11_1).f0.f4)).bind fun t107 => (if t107 = true then (spec_l15List.l0 k1 y104 (wrap64 (x5_1 + 1)) l0_2 (l0_2.length : Int) (wrap64 (x11_1 + 1))) else (spec_l15List.l0 k1 y104 x5_1 l0_2 (l0_2.length : Int) (wrap64 (x11_1 + 1))))) = some (r1,r2) := by first | (rw [hy104];with_reducible exact H) | (have H2_ := (Option.bind_some _ _).symm.trans H;rw [hy104];with_reducible exact H2_) | (have H2_ := (Option.bind_some _ _).symm.trans H;with_reducible exact H2_) | with_reducible exact H | (rw [hy104];exact H) | exact H
       have Ny104 := aS hy104;clear hy104;obtain ⟨t107,A80,H⟩ := bE H;have A8 := aS A80;clear A80;by_cases c9 : t107 = true
       ·
        subst c9;replace H := iT H;have H' := aS H;clear H;have p102 : 0 ≤ (x11_1 : Int) := of_decide_eq_true (by first | (with_reducible assumption) | assumption);have q102 : x11_1 < (l0_2.length : Int) := of_decide_eq_true (by first | (with_reducible assumption) | assumption);obtain ⟨ad102,e102,hx102_0,hx102_1,hx102_2,hx102_3,hx102_4,hx102_5,hx102_6,hx102_7,hx102_8⟩ := at_T76 HR0_2.out x11_1 p102 q102;cases e102
        replace hx102_0 := oJ HB hx102_0;replace hx102_1 := oJ HB hx102_1;replace hx102_2 := oJ HB hx102_2;replace hx102_3 := oJ HB hx102_3;replace hx102_4 := oJ HB hx102_4;replace hx102_5 := oJ HB hx102_5;replace hx102_6 := oJ HB hx102_6;replace hx102_7 := oJ HB hx102_7;replace hx102_8 := oJ HB hx102_8;replace p102 := eq_true p102;replace q102 := eq_true q102;go_wp2_with (first | ((with_reducible refine gate_dst (N := 7) rfl ?_);refine box_event ?hg (N := 7) ?hd (cs := #[.int .i64 0,.int .i64 0,.int .i64 0,.int .i64 0,.int .i64 0,.int .i64 0,.int .i64 0,.int .i64 0,.bool false]) (t := 76) ?hr ?_;(case hd => rfl);(case hg => rfl);(case hr => first | (go_simp;done) | (go_simp;rfl));intro gb103 hg w10 hbox hb;refine mk8 (Kd.R_below (oR HO_4.out) hb) (blk_below (oB BK101.out) hb) (below_step oL hb) (hbox) ((oS hg oL : w.heap.size ≤ gb103)) ((oS hg oL : w.heap.size ≤ gb103)) ((oN hg (oB BK101.out) : gb101 ≠ gb103)) ((oM hg (oB BK101.out) : gb103 ≠ gb101)) ?_;clear HO_4 BK101 HB;intro HO_4 BK101 HB BK103 GW103 GE103 NB101_103 NB103_101;clear hb hbox hg;have hnb11 := NB103_101.out;have hnc11 := NB101_103.out;refine zz9 BK103.out ?_;intros) | ((with_reducible refine gate_builtin (b := .append) (xs := #[.tmp 15,.tmp 18]) rfl ?_);at_builtin;refine Kd.R_append k74 (w0 := w) w.heap.size rfl (.tmp 15) (.tmp 18) 67 74 (.agg #[(.int .i64 0),(.int .i64 0),(.int .i64 0),(.int .i64 0),(.int .i64 0),(.int .i64 0),(.int .i64 0)]) 56 rfl Tryz.underlying67 info74 rfl (by decide) (by omega) u4 x4_1 (⟨(rd_T76 l0_2 x11_1).f0.f0,(rd_T76 l0_2 x11_1).f0.f1,(rd_T76 l0_2 x11_1).f0.f2,(⟨(rd_T76 l0_2 x11_1).f0.f3.f0,(rd_T76 l0_2 x11_1).f0.f3.f1,(rd_T76 l0_2 x11_1).f0.f3.f2⟩ : S72),(rd_T76 l0_2 x11_1).f0.f4⟩ : S74) [.int .i64 ((rd_T76 l0_2 x11_1).f0.f0),.int .i64 ((rd_T76 l0_2 x11_1).f0.f1),.int .i64 ((rd_T76 l0_2 x11_1).f0.f2),.int .i64 ((rd_T76 l0_2 x11_1).f0.f3.f0),.int .i64 ((rd_T76 l0_2 x11_1).f0.f3.f1),.int .i64 ((rd_T76 l0_2 x11_1).f0.f3.f2),.int .i64 ((rd_T76 l0_2 x11_1).f0.f4)] (fun _ => True) (fun _ => False) rfl (by first | (go_simp;done) | (go_simp;rfl)) ?aP (fun _ hk => hk.elim) ?aF ?aO ?aB ?aS ?aL ?_;(case aP => exact k74_mkM _ _ _ (⟨(rd_T76 l0_2 x11_1).f0.f0,(rd_T76 l0_2 x11_1).f0.f1,(rd_T76 l0_2 x11_1).f0.f2,(⟨(rd_T76 l0_2 x11_1).f0.f3.f0,(rd_T76 l0_2 x11_1).f0.f3.f1,(rd_T76 l0_2 x11_1).f0.f3.f2⟩ : S72),(rd_T76 l0_2 x11_1).f0.f4⟩ : S74));(case aB => exact oL);(case aF => exact (fun _ _ => trivial));(case aO => exact (by (with_reducible repeat (first | apply Kd.R_alloc | apply Kd.R_drewN | apply Kd.R_drew));exact Kd.R_mono (oFr HO_4.out BK103.out) (fun _ hk => trivial)));(case aS => exact (below_size oL));(case aL => have := LMc7.out;omega);intro v105 w13 ho hb hg hat;rw [← Ny104.out] at ho;refine mk4 (blk_grown (g := gb101) (o := .cells #[.int .i64 a0_0,.int .i64 a0_1,.slice (some ad102) l0_2.length c0_2] 46 (0,0)) (oG BK101.out NB101_103.out) hg (Kd.R_ne HO_4.out BK101.out (by decide))) (blk_grown (g := gb103) (o := .cells #[.int .i64 ((rd_T76 l0_2 x11_1).f0.f0),.int .i64 ((rd_T76 l0_2 x11_1).f0.f1),.int .i64 ((rd_T76 l0_2 x11_1).f0.f2),.int .i64 ((rd_T76 l0_2 x11_1).f0.f3.f0),.int .i64 ((rd_T76 l0_2 x11_1).f0.f3.f1),.int .i64 ((rd_T76 l0_2 x11_1).f0.f3.f2),.int .i64 ((rd_T76 l0_2 x11_1).f0.f4),.int .i64 ((rd_T76 l0_2 x11_1).f1),.bool ((rd_T76 l0_2 x11_1).f2)] 76 (0,0)) (oP BK103.out) hg (Kd.R_ne HO_4.out BK103.out (by decide))) (hb) (ho) ?_;clear BK101 BK103 HB HO_4;intro BK101 BK103 HB HO106;clear ho hb hg hat;refine zz9 BK103.out ?_;intros) | ((with_reducible refine gate_callee (f := 35) rfl ?_);refine goesL_ (some 22) rfl rfl Tryz.func35 (by kernel_rfl) rfl #[.agg #[.int .i64 ((rd_T76 l0_2 x11_1).f0.f0),.int .i64 ((rd_T76 l0_2 x11_1).f0.f1),.int .i64 ((rd_T76 l0_2 x11_1).f0.f2),.int .i64 ((rd_T76 l0_2 x11_1).f0.f3.f0),.int .i64 ((rd_T76 l0_2 x11_1).f0.f3.f1),.int .i64 ((rd_T76 l0_2 x11_1).f0.f3.f2),.int .i64 ((rd_T76 l0_2 x11_1).f0.f4)]] rfl oA ?_;(with_reducible refine (spec_l14Straight.calls k1 ((rd_T76 l0_2 x11_1).f0.f0) ((rd_T76 l0_2 x11_1).f0.f1) ((rd_T76 l0_2 x11_1).f0.f2) ((rd_T76 l0_2 x11_1).f0.f3.f0) ((rd_T76 l0_2 x11_1).f0.f3.f1) ((rd_T76 l0_2 x11_1).f0.f3.f2) ((rd_T76 l0_2 x11_1).f0.f4) true _ A8.out).mono ?_);rintro e w15 ⟨rfl,hb⟩;refine ⟨_,rfl,?_⟩;refine mk4 (Kd.R_below (oR HO106.out) hb) (blk_below (oB BK101.out) hb) (blk_below (oB BK103.out) hb) (below_step oL hb) ?_;clear HO106 BK101 BK103 HB;intro HO106 BK101 BK103 HB));go_roundg k1;case measure => have := HK1.out;omega
        case rel => exact ⟨(y104),(wrap64 (x5_1 + 1)),(wrap64 (x11_1 + 1)),oE,oE,H',⟨by have := HK1.out;omega⟩,⟨by (with_reducible repeat (first | apply Kd.R_alloc | apply Kd.R_drewN | apply Kd.R_drew));exact HO106.out⟩,⟨oB BK101.out⟩,⟨oL⟩⟩
       ·
        replace c9 := Bool.eq_false_iff.mpr c9;subst c9;replace H := iF H;have H' := aS H;clear H;have p102 : 0 ≤ (x11_1 : Int) := of_decide_eq_true (by first | (with_reducible assumption) | assumption);have q102 : x11_1 < (l0_2.length : Int) := of_decide_eq_true (by first | (with_reducible assumption) | assumption);obtain ⟨ad102,e102,hx102_0,hx102_1,hx102_2,hx102_3,hx102_4,hx102_5,hx102_6,hx102_7,hx102_8⟩ := at_T76 HR0_2.out x11_1 p102 q102;cases e102
        replace hx102_0 := oJ HB hx102_0;replace hx102_1 := oJ HB hx102_1;replace hx102_2 := oJ HB hx102_2;replace hx102_3 := oJ HB hx102_3;replace hx102_4 := oJ HB hx102_4;replace hx102_5 := oJ HB hx102_5;replace hx102_6 := oJ HB hx102_6;replace hx102_7 := oJ HB hx102_7;replace hx102_8 := oJ HB hx102_8;replace p102 := eq_true p102;replace q102 := eq_true q102;go_wp2_with (first | ((with_reducible refine gate_dst (N := 7) rfl ?_);refine box_event ?hg (N := 7) ?hd (cs := #[.int .i64 0,.int .i64 0,.int .i64 0,.int .i64 0,.int .i64 0,.int .i64 0,.int .i64 0,.int .i64 0,.bool false]) (t := 76) ?hr ?_;(case hd => rfl);(case hg => rfl);(case hr => first | (go_simp;done) | (go_simp;rfl));intro gb103 hg w16 hbox hb;refine mk8 (Kd.R_below (oR HO_4.out) hb) (blk_below (oB BK101.out) hb) (below_step oL hb) (hbox) ((oS hg oL : w.heap.size ≤ gb103)) ((oS hg oL : w.heap.size ≤ gb103)) ((oN hg (oB BK101.out) : gb101 ≠ gb103)) ((oM hg (oB BK101.out) : gb103 ≠ gb101)) ?_;clear HO_4 BK101 HB;intro HO_4 BK101 HB BK103 GW103 GE103 NB101_103 NB103_101;clear hb hbox hg;have hnb17 := NB103_101.out;have hnc17 := NB101_103.out;refine zz9 BK103.out ?_;intros) | ((with_reducible refine gate_builtin (b := .append) (xs := #[.tmp 15,.tmp 18]) rfl ?_);at_builtin;refine Kd.R_append k74 (w0 := w) w.heap.size rfl (.tmp 15) (.tmp 18) 67 74 (.agg #[(.int .i64 0),(.int .i64 0),(.int .i64 0),(.int .i64 0),(.int .i64 0),(.int .i64 0),(.int .i64 0)]) 56 rfl Tryz.underlying67 info74 rfl (by decide) (by omega) u4 x4_1 (⟨(rd_T76 l0_2 x11_1).f0.f0,(rd_T76 l0_2 x11_1).f0.f1,(rd_T76 l0_2 x11_1).f0.f2,(⟨(rd_T76 l0_2 x11_1).f0.f3.f0,(rd_T76 l0_2 x11_1).f0.f3.f1,(rd_T76 l0_2 x11_1).f0.f3.f2⟩ : S72),(rd_T76 l0_2 x11_1).f0.f4⟩ : S74) [.int .i64 ((rd_T76 l0_2 x11_1).f0.f0),.int .i64 ((rd_T76 l0_2 x11_1).f0.f1),.int .i64 ((rd_T76 l0_2 x11_1).f0.f2),.int .i64 ((rd_T76 l0_2 x11_1).f0.f3.f0),.int .i64 ((rd_T76 l0_2 x11_1).f0.f3.f1),.int .i64 ((rd_T76 l0_2 x11_1).f0.f3.f2),.int .i64 ((rd_T76 l0_2 x11_1).f0.f4)] (fun _ => True) (fun _ => False) rfl (by first | (go_simp;done) | (go_simp;rfl)) ?aP (fun _ hk => hk.elim) ?aF ?aO ?aB ?aS ?aL ?_;(case aP => exact k74_mkM _ _ _ (⟨(rd_T76 l0_2 x11_1).f0.f0,(rd_T76 l0_2 x11_1).f0.f1,(rd_T76 l0_2 x11_1).f0.f2,(⟨(rd_T76 l0_2 x11_1).f0.f3.f0,(rd_T76 l0_2 x11_1).f0.f3.f1,(rd_T76 l0_2 x11_1).f0.f3.f2⟩ : S72),(rd_T76 l0_2 x11_1).f0.f4⟩ : S74));(case aB => exact oL);(case aF => exact (fun _ _ => trivial));(case aO => exact (by (with_reducible repeat (first | apply Kd.R_alloc | apply Kd.R_drewN | apply Kd.R_drew));exact Kd.R_mono (oFr HO_4.out BK103.out) (fun _ hk => trivial)));(case aS => exact (below_size oL));(case aL => have := LMc7.out;omega);intro v105 w19 ho hb hg hat;rw [← Ny104.out] at ho;refine mk4 (blk_grown (g := gb101) (o := .cells #[.int .i64 a0_0,.int .i64 a0_1,.slice (some ad102) l0_2.length c0_2] 46 (0,0)) (oG BK101.out NB101_103.out) hg (Kd.R_ne HO_4.out BK101.out (by decide))) (blk_grown (g := gb103) (o := .cells #[.int .i64 ((rd_T76 l0_2 x11_1).f0.f0),.int .i64 ((rd_T76 l0_2 x11_1).f0.f1),.int .i64 ((rd_T76 l0_2 x11_1).f0.f2),.int .i64 ((rd_T76 l0_2 x11_1).f0.f3.f0),.int .i64 ((rd_T76 l0_2 x11_1).f0.f3.f1),.int .i64 ((rd_T76 l0_2 x11_1).f0.f3.f2),.int .i64 ((rd_T76 l0_2 x11_1).f0.f4),.int .i64 ((rd_T76 l0_2 x11_1).f1),.bool ((rd_T76 l0_2 x11_1).f2)] 76 (0,0)) (oP BK103.out) hg (Kd.R_ne HO_4.out BK103.out (by decide))) (hb) (ho) ?_;clear BK101 BK103 HB HO_4;intro BK101 BK103 HB HO106;clear ho hb hg hat;refine zz9 BK103.out ?_;intros) | ((with_reducible refine gate_callee (f := 35) rfl ?_);refine goesL_ (some 22) rfl rfl Tryz.func35 (by kernel_rfl) rfl #[.agg #[.int .i64 ((rd_T76 l0_2 x11_1).f0.f0),.int .i64 ((rd_T76 l0_2 x11_1).f0.f1),.int .i64 ((rd_T76 l0_2 x11_1).f0.f2),.int .i64 ((rd_T76 l0_2 x11_1).f0.f3.f0),.int .i64 ((rd_T76 l0_2 x11_1).f0.f3.f1),.int .i64 ((rd_T76 l0_2 x11_1).f0.f3.f2),.int .i64 ((rd_T76 l0_2 x11_1).f0.f4)]] rfl oA ?_;(with_reducible refine (spec_l14Straight.calls k1 ((rd_T76 l0_2 x11_1).f0.f0) ((rd_T76 l0_2 x11_1).f0.f1) ((rd_T76 l0_2 x11_1).f0.f2) ((rd_T76 l0_2 x11_1).f0.f3.f0) ((rd_T76 l0_2 x11_1).f0.f3.f1) ((rd_T76 l0_2 x11_1).f0.f3.f2) ((rd_T76 l0_2 x11_1).f0.f4) false _ A8.out).mono ?_);rintro e w21 ⟨rfl,hb⟩;refine ⟨_,rfl,?_⟩;refine mk4 (Kd.R_below (oR HO106.out) hb) (blk_below (oB BK101.out) hb) (blk_below (oB BK103.out) hb) (below_step oL hb) ?_;clear HO106 BK101 BK103 HB;intro HO106 BK101 BK103 HB));go_roundg k1;case measure => have := HK1.out;omega
        case rel => exact ⟨(y104),(x5_1),(wrap64 (x11_1 + 1)),oE,oE,H',⟨by have := HK1.out;omega⟩,⟨by (with_reducible repeat (first | apply Kd.R_alloc | apply Kd.R_drewN | apply Kd.R_drew));exact HO106.out⟩,⟨oB BK101.out⟩,⟨oL⟩⟩
      · rw [if_neg c7] at H;exact absurd H (by simp)
     · rw [if_neg c6] at H;exact absurd H (by simp)
    · rw [if_neg c5] at H;exact absurd H (by simp)
   · rw [if_neg c4] at H;have c4b0 : decide (x11_1 < (l0_2.length : Int)) = false := decide_eq_false c4;clear c4;simp only [Option.some.injEq,Prod.mk.injEq] at H;obtain ⟨rfl,rfl⟩ := H;go_wp2;go_ret2;exact ⟨_,oE,by (with_reducible repeat (first | apply Kd.R_alloc | apply Kd.R_drewN | apply Kd.R_drew));exact HO_4.out,oL⟩

/-! ### spec_l6Ext: function 62 -/
def spec_l6Ext.f (a0 : Int) : Option (Bool) := some (decide (a0 ≥ 5))
set_option maxHeartbeats 8000000 in
set_option maxRecDepth 100000 in
theorem spec_l6Ext.calls (a0 : Int) (r : Bool) (w : World) (h : spec_l6Ext.f a0 = some r) :
  Calls Tryz.prog 62 #[.int .i64 a0] w fun e w' => e = .returned (.bool r) ∧ Drawn0 w w' := by
 have H : (some (decide (a0 ≥ 5))) = some r := h;clear h;obtain rfl := Option.some.inj H;go_enter Tryz.func62,Tryz.ntmps62;go_wp2;go_ret;exact ⟨by first | rfl | (simp;done) | (simp [*];done),by repeat (first | exact Drawn0.refl _ | apply Drawn0.step)⟩

/-! ### spec_GoodOperand: function 57 -/
def spec_GoodOperand.j0 : Nat → Bool → Int → Int → Int → Option (Bool)
 | 0,_,_,_,_ => none
 | k + 1,x22,x102000,x102001,x102002 => if x22 = true then (some false) else ((spec_l6Word.f x102002).bind fun t104 => (if t104 = true then ((spec_l6Ext.f x102000).bind fun t105 => (if t105 = true then (some true) else (some (x102002 == 0)))) else (some false)))
def spec_GoodOperand.f (k : Nat) (a0_0 : Int) (a0_1 : Int) (a0_2 : Int) : Option (Bool) := (spec_l1In.f a0_0 0 7).bind fun t102 => (if t102 = true then ((spec_l1In.f a0_1 0 3).bind fun t103 => (if t103 = true then (if a0_0 ≥ 6 then (spec_GoodOperand.j0 k (a0_1 != 0) a0_0 a0_1 a0_2) else (spec_GoodOperand.j0 k false a0_0 a0_1 a0_2)) else (spec_GoodOperand.j0 k true a0_0 a0_1 a0_2))) else (spec_GoodOperand.j0 k true a0_0 a0_1 a0_2))
theorem spec_GoodOperand.mono_l : ∀ k,(∀ y0 y1 y2 y3,LeO (spec_GoodOperand.j0 k y0 y1 y2 y3) (spec_GoodOperand.j0 (k + 1) y0 y1 y2 y3))
 | 0 => fun _ _ _ _ r h => by simp [spec_GoodOperand.j0] at h
 | k + 1 => by
  have ih0 := spec_GoodOperand.mono_l k
  ·
   intro y0 y1 y2 y3
   unfold spec_GoodOperand.j0
   repeat' first
   | (with_reducible exact ih0 _ _ _ _)
   | (with_reducible exact LeO.refl _)
   | (with_reducible exact LeO.none _)
   | (with_reducible refine LeO.ite ?_ ?_)
   | (with_reducible refine LeO.bind ?_ (fun _ => ?_))
theorem spec_GoodOperand.mono : ∀ a0 a1 a2 k,LeO (spec_GoodOperand.f k a0 a1 a2) (spec_GoodOperand.f (k + 1) a0 a1 a2) := by
 intro a0 a1 a2 k
 have ih0 := spec_GoodOperand.mono_l k
 unfold spec_GoodOperand.f
 repeat' first
   | (with_reducible exact ih0 _ _ _ _)
   | (with_reducible exact LeO.refl _)
   | (with_reducible exact LeO.none _)
   | (with_reducible refine LeO.ite ?_ ?_)
   | (with_reducible refine LeO.bind ?_ (fun _ => ?_))
set_option maxHeartbeats 8000000 in
set_option maxRecDepth 100000 in
theorem spec_GoodOperand.calls (k : Nat) (a0_0 : Int) (a0_1 : Int) (a0_2 : Int) (r : Bool) (w : World) (h : spec_GoodOperand.f k a0_0 a0_1 a0_2 = some r) :
  Calls Tryz.prog 57 #[.agg #[.int .i64 a0_0,.int .i64 a0_1,.int .i64 a0_2]] w fun e w' => e = .returned (.bool r) ∧ Below w.heap.size w w' := by
 have hu72 := Tryz.underlying72;have HB := aS (Below.refl w.heap.size w);have H : ((spec_l1In.f a0_0 0 7).bind fun t102 => (if t102 = true then ((spec_l1In.f a0_1 0 3).bind fun t103 => (if t103 = true then (if a0_0 ≥ 6 then (spec_GoodOperand.j0 k (a0_1 != 0) a0_0 a0_1 a0_2) else (spec_GoodOperand.j0 k false a0_0 a0_1 a0_2)) else (spec_GoodOperand.j0 k true a0_0 a0_1 a0_2))) else (spec_GoodOperand.j0 k true a0_0 a0_1 a0_2))) = some r := h;clear h;have HC2 := aS H;clear H;go_enter Tryz.func57,Tryz.ntmps57;go_upto_region 1 with (first | ((with_reducible refine gate_dst (N := 1) rfl ?_);refine boxE (w := w) oL (cs := #[.int .i64 a0_0,.int .i64 a0_1,.int .i64 a0_2]) (t := 72) ?_;clear HB;intro gb101 w3 HB BK101 GW101;have GE101 := GW101));(try simp only [Act.put,List.setIfInBounds_toArray,List.set_cons_zero,List.set_cons_succ]);go_cut [22] (fun v22 wc => ∃ (kq : Nat) (x22_1 : Bool),v22 = .bool x22_1 ∧ Aside0 (spec_GoodOperand.j0 kq x22_1 a0_0 a0_1 a0_2 = some r) ∧ Aside0 (kq ≤ k) ∧ Aside0 (wc.heap[gb101]? = some (.cells #[.int .i64 a0_0,.int .i64 a0_1,.int .i64 a0_2] 72 (0,0))) ∧ Aside0 (Below w.heap.size w wc))
 case first =>
  have H := HC2.out;clear HC2;obtain ⟨t102,A40,H⟩ := bE H;have A4 := aS A40;clear A40;by_cases c5 : t102 = true
  ·
   subst c5;replace H := iT H;obtain ⟨t103,A60,H⟩ := bE H;have A6 := aS A60;clear A60;by_cases c7 : t103 = true
   ·
    subst c7;replace H := iT H;by_cases c8 : a0_0 ≥ 6
    ·
     rw [if_pos c8] at H;have c8b0 : decide (6 ≤ a0_0) = true := decide_eq_true c8;clear c8;(first | rw [c8b0] | (simp only [i64_w,i32_w];rw [c8b0]) | skip);have H' := aS H;clear H;refine zz3 BK101.out ?_;intros;go_wp2_with (first | ((with_reducible refine gate_callee (f := 32) rfl ?_);refine goesQ (some 5) Tryz.func32 #[.int .i64 a0_0,.int .i64 0,.int .i64 7] (spec_l1In.calls a0_0 0 7 true _ A4.out) fun nd => ?_) | (go_at_call 32;(with_reducible refine (spec_l1In.calls a0_1 0 3 true _ A6.out).mono ?_);rintro e w' ⟨rfl,⟨nd,rfl⟩⟩));go_meet;case rel => exact ⟨_,((a0_1 != 0)),oE,H',⟨by first | omega | exact Nat.le_refl _⟩,⟨oB BK101.out⟩,⟨oL⟩⟩
    ·
     rw [if_neg c8] at H;have c8b0 : decide (6 ≤ a0_0) = false := decide_eq_false c8;clear c8;(first | rw [c8b0] | (simp only [i64_w,i32_w];rw [c8b0]) | skip);have H' := aS H;clear H;refine zz3 BK101.out ?_;intros;go_wp2_with (first | ((with_reducible refine gate_callee (f := 32) rfl ?_);refine goesQ (some 5) Tryz.func32 #[.int .i64 a0_0,.int .i64 0,.int .i64 7] (spec_l1In.calls a0_0 0 7 true _ A4.out) fun nd => ?_) | (go_at_call 32;(with_reducible refine (spec_l1In.calls a0_1 0 3 true _ A6.out).mono ?_);rintro e w' ⟨rfl,⟨nd,rfl⟩⟩));go_meet;case rel => exact ⟨_,(false),oE,H',⟨by first | omega | exact Nat.le_refl _⟩,⟨oB BK101.out⟩,⟨oL⟩⟩
   ·
    replace c7 := Bool.eq_false_iff.mpr c7;subst c7;replace H := iF H;have H' := aS H;clear H;refine zz3 BK101.out ?_;intros;go_wp2_with (first | ((with_reducible refine gate_callee (f := 32) rfl ?_);refine goesQ (some 5) Tryz.func32 #[.int .i64 a0_0,.int .i64 0,.int .i64 7] (spec_l1In.calls a0_0 0 7 true _ A4.out) fun nd => ?_) | (go_at_call 32;(with_reducible refine (spec_l1In.calls a0_1 0 3 false _ A6.out).mono ?_);rintro e w' ⟨rfl,⟨nd,rfl⟩⟩));go_meet;case rel => exact ⟨_,(true),oE,H',⟨by first | omega | exact Nat.le_refl _⟩,⟨oB BK101.out⟩,⟨oL⟩⟩
  ·
   replace c5 := Bool.eq_false_iff.mpr c5;subst c5;replace H := iF H;have H' := aS H;clear H;refine zz3 BK101.out ?_;intros;go_wp2_with (first | ((with_reducible refine gate_callee (f := 32) rfl ?_);refine goesQ (some 5) Tryz.func32 #[.int .i64 a0_0,.int .i64 0,.int .i64 7] (spec_l1In.calls a0_0 0 7 false _ A4.out) fun nd => ?_));go_meet;case rel => exact ⟨_,(true),oE,H',⟨by first | omega | exact Nat.le_refl _⟩,⟨oB BK101.out⟩,⟨oL⟩⟩
 case rest =>
  clear HC2;obtain ⟨kq,x22_1,rfl,HA,HJ1,BK101,HB⟩ := hcut;cases kq with
  | zero => exact absurd HA.out (by simp [spec_GoodOperand.j0])
  | succ kj1 =>
   have H := HA.out;clear HA;simp only [spec_GoodOperand.j0] at H;by_cases c13 : x22_1 = true;{subst c13;replace H := iT H;obtain rfl := Option.some.inj H;go_wp2;go_ret;exact ⟨oE,oL⟩}
   ·
    replace c13 := Bool.eq_false_iff.mpr c13;subst c13;replace H := iF H;obtain ⟨t104,A140,H⟩ := bE H;have A14 := aS A140;clear A140;by_cases c15 : t104 = true
    ·
     subst c15;replace H := iT H;obtain ⟨t105,A160,H⟩ := bE H;have A16 := aS A160;clear A160;by_cases c17 : t105 = true
     ·
      subst c17;replace H := iT H;obtain rfl := Option.some.inj H;refine zz3 BK101.out ?_;intros;go_wp2_with (first | ((with_reducible refine gate_callee (f := 52) rfl ?_);refine goesQ (some 25) Tryz.func52 #[.int .i64 a0_2] (spec_l6Word.calls a0_2 true _ A14.out) fun nd => ?_) | (go_at_call 62;(with_reducible refine (spec_l6Ext.calls a0_0 true _ A16.out).mono ?_);rintro e w' ⟨rfl,⟨nd,rfl⟩⟩));go_ret;exact ⟨oE,oL⟩
     ·
      replace c17 := Bool.eq_false_iff.mpr c17;subst c17;replace H := iF H;obtain rfl := Option.some.inj H;refine zz3 BK101.out ?_;intros;go_wp2_with (first | ((with_reducible refine gate_callee (f := 52) rfl ?_);refine goesQ (some 25) Tryz.func52 #[.int .i64 a0_2] (spec_l6Word.calls a0_2 true _ A14.out) fun nd => ?_) | (go_at_call 62;(with_reducible refine (spec_l6Ext.calls a0_0 false _ A16.out).mono ?_);rintro e w' ⟨rfl,⟨nd,rfl⟩⟩));go_ret;exact ⟨oE,oL⟩
    ·
     replace c15 := Bool.eq_false_iff.mpr c15;subst c15;replace H := iF H;obtain rfl := Option.some.inj H;refine zz3 BK101.out ?_;intros;go_wp2_with (first | ((with_reducible refine gate_callee (f := 52) rfl ?_);refine goesQ (some 25) Tryz.func52 #[.int .i64 a0_2] (spec_l6Word.calls a0_2 false _ A14.out) fun nd => ?_));go_ret;exact ⟨oE,oL⟩

/-! ### spec_l7Memory: function 58 -/
def spec_l7Memory.f (a0 : Int) : Option (Bool) := (spec_l1In.f a0 2 6).bind fun t101 => (some t101)
set_option maxHeartbeats 8000000 in
set_option maxRecDepth 100000 in
theorem spec_l7Memory.calls (a0 : Int) (r : Bool) (w : World) (h : spec_l7Memory.f a0 = some r) :
  Calls Tryz.prog 58 #[.int .i64 a0] w fun e w' => e = .returned (.bool r) ∧ Drawn0 w w' := by
 have H : ((spec_l1In.f a0 2 6).bind fun t101 => (some t101)) = some r := h;clear h;obtain ⟨t101,A20,H⟩ := bE H;have A2 := aS A20;clear A20;obtain rfl := Option.some.inj H;go_enter Tryz.func58,Tryz.ntmps58;go_wp2_with (first | ((with_reducible refine gate_callee (f := 32) rfl ?_);refine goesQ (some 4) Tryz.func32 #[.int .i64 a0,.int .i64 2,.int .i64 6] (spec_l1In.calls a0 2 6 t101 _ A2.out) fun nd => ?_));go_ret;exact ⟨by first | rfl | (simp;done) | (simp [*];done),by repeat (first | exact Drawn0.refl _ | apply Drawn0.step)⟩

/-! ### spec_l7Plain: function 59 -/
def spec_l7Plain.f (a0 : Int) : Option (Bool) := if a0 = 2 then (some true) else (if a0 = 5 then (some true) else (some (a0 == 6)))
set_option maxHeartbeats 8000000 in
set_option maxRecDepth 100000 in
theorem spec_l7Plain.calls (a0 : Int) (r : Bool) (w : World) (h : spec_l7Plain.f a0 = some r) :
  Calls Tryz.prog 59 #[.int .i64 a0] w fun e w' => e = .returned (.bool r) ∧ Drawn0 w w' := by
 have H : (if a0 = 2 then (some true) else (if a0 = 5 then (some true) else (some (a0 == 6)))) = some r := h;clear h;by_cases c2 : a0 = 2;{rw [if_pos c2] at H;obtain ⟨c2b0,c2b1⟩ := eT c2;clear c2;obtain rfl := Option.some.inj H;go_enter Tryz.func59,Tryz.ntmps59;go_wp2;go_ret;exact ⟨by first | rfl | (simp;done) | (simp [*];done),by repeat (first | exact Drawn0.refl _ | apply Drawn0.step)⟩}
 ·
  rw [if_neg c2] at H;obtain ⟨c2b0,c2b1⟩ := eF c2;by_cases c3 : a0 = 5;{rw [if_pos c3] at H;obtain ⟨c3b0,c3b1⟩ := eT c3;clear c3;obtain rfl := Option.some.inj H;go_enter Tryz.func59,Tryz.ntmps59;go_wp2;go_ret;exact ⟨by first | rfl | (simp;done) | (simp [*];done),by repeat (first | exact Drawn0.refl _ | apply Drawn0.step)⟩};{rw [if_neg c3] at H;obtain ⟨c3b0,c3b1⟩ := eF c3;obtain rfl := Option.some.inj H;go_enter Tryz.func59,Tryz.ntmps59;go_wp2;go_ret;exact ⟨by first | rfl | (simp;done) | (simp [*];done),by repeat (first | exact Drawn0.refl _ | apply Drawn0.step)⟩}

/-! ### spec_l7Now: function 60 -/
def spec_l7Now.f (a0_0 : Int) (a0_1 : Int) (a0_2 : Int) : Option (Bool) := if a0_0 = 7 then (some (decide (a0_2 ≤ 1023))) else (some false)
set_option maxHeartbeats 8000000 in
set_option maxRecDepth 100000 in
theorem spec_l7Now.calls (a0_0 : Int) (a0_1 : Int) (a0_2 : Int) (r : Bool) (w : World) (h : spec_l7Now.f a0_0 a0_1 a0_2 = some r) :
  Calls Tryz.prog 60 #[.agg #[.int .i64 a0_0,.int .i64 a0_1,.int .i64 a0_2]] w fun e w' => e = .returned (.bool r) ∧ Below w.heap.size w w' := by
 have hu72 := Tryz.underlying72;have HB := aS (Below.refl w.heap.size w);have H : (if a0_0 = 7 then (some (decide (a0_2 ≤ 1023))) else (some false)) = some r := h;clear h;by_cases c2 : a0_0 = 7
 ·
  rw [if_pos c2] at H;obtain ⟨c2b0,c2b1⟩ := eT c2;clear c2;obtain rfl := Option.some.inj H;go_enter Tryz.func60,Tryz.ntmps60;go_wp2_with (first | ((with_reducible refine gate_dst (N := 1) rfl ?_);refine boxE (w := w) oL (cs := #[.int .i64 a0_0,.int .i64 a0_1,.int .i64 a0_2]) (t := 72) ?_;clear HB;intro gb101 w3 HB BK101 GW101;have GE101 := GW101;refine zz3 BK101.out ?_;intros));go_ret;exact ⟨oE,oL⟩
 ·
  rw [if_neg c2] at H;obtain ⟨c2b0,c2b1⟩ := eF c2;obtain rfl := Option.some.inj H;go_enter Tryz.func60,Tryz.ntmps60;go_wp2_with (first | ((with_reducible refine gate_dst (N := 1) rfl ?_);refine boxE (w := w) oL (cs := #[.int .i64 a0_0,.int .i64 a0_1,.int .i64 a0_2]) (t := 72) ?_;clear HB;intro gb101 w5 HB BK101 GW101;have GE101 := GW101;refine zz3 BK101.out ?_;intros));go_ret;exact ⟨oE,oL⟩

/-! ### spec_l7Zero: function 61 -/
def spec_l7Zero.f (a0_0 : Int) (a0_1 : Int) (a0_2 : Int) : Option (Bool) := some (a0_0 == 0 && (a0_1 == 0 && (a0_2 == 0)))
set_option maxHeartbeats 8000000 in
set_option maxRecDepth 100000 in
theorem spec_l7Zero.calls (a0_0 : Int) (a0_1 : Int) (a0_2 : Int) (r : Bool) (w : World) (h : spec_l7Zero.f a0_0 a0_1 a0_2 = some r) :
  Calls Tryz.prog 61 #[.agg #[.int .i64 a0_0,.int .i64 a0_1,.int .i64 a0_2]] w fun e w' => e = .returned (.bool r) ∧ Below w.heap.size w w' := by
 have hu72 := Tryz.underlying72;have HB := aS (Below.refl w.heap.size w);have H : (some (a0_0 == 0 && (a0_1 == 0 && (a0_2 == 0)))) = some r := h;clear h;obtain rfl := Option.some.inj H;go_enter Tryz.func61,Tryz.ntmps61;go_wp2_with (first | ((with_reducible refine gate_dst (N := 1) rfl ?_);refine boxE (w := w) oL (cs := #[.int .i64 a0_0,.int .i64 a0_1,.int .i64 a0_2]) (t := 72) ?_;clear HB;intro gb101 w2 HB BK101 GW101;have GE101 := GW101;refine zz3 BK101.out ?_;intros));go_ret;exact ⟨oE,oL⟩

end Go.Proofs.YtapfngfaiojmhaaGreat.R
