-- Made by this session's program gprint.py out of the translation. Not trusted: Lean checks it.
import Derived.Test.YtapfngfaiojmhaaRx0
namespace Go.Proofs.Ytapfngfaiojmhaa.R
open Go.RowKit Go.Proofs.YtapfngfaiojmhaaW.PrintWords Go.Proofs.YtapfngfaiojmhaaW.PrintLast Go.Proofs.YtapfngfaiojmhaaW.PrintMore
attribute [local go_sem] max2_int min2_int max_two min_two max_three min_three max_four min_four   -- for this text's walks alone
set_option linter.unusedVariables false
set_option linter.unusedSimpArgs false

/-! ### spec_l14Straight: function 55 -/
def spec_l14Straight.j0 : Nat → Int → Bool → Int → Int → Int → Int → Int → Int → Int → Option (Bool)
 | 0,_,_,_,_,_,_,_,_,_ => none
 | k + 1,x4,x5,x102000,x102001,x102002,x102003,x102004,x102005,x102006 => if x5 = true then (some false) else (if x4 = 15 then (if x102006 = 2 then (some true) else (if x102006 = 5 then (some true) else (some (x102006 == 6)))) else (if x4 = 19 then (some (x102006 != 0)) else (some true)))
def spec_l14Straight.f (k : Nat) (a0_0 : Int) (a0_1 : Int) (a0_2 : Int) (a0_3 : Int) (a0_4 : Int) (a0_5 : Int) (a0_6 : Int) : Option (Bool) := if a0_0 = 13 then (spec_l14Straight.j0 k a0_0 (a0_0 == 13) a0_0 a0_1 a0_2 a0_3 a0_4 a0_5 a0_6) else (spec_l14Straight.j0 k a0_0 (a0_0 == 14) a0_0 a0_1 a0_2 a0_3 a0_4 a0_5 a0_6)
theorem spec_l14Straight.mono_l : ∀ k,(∀ y0 y1 y2 y3 y4 y5 y6 y7 y8,LeO (spec_l14Straight.j0 k y0 y1 y2 y3 y4 y5 y6 y7 y8) (spec_l14Straight.j0 (k + 1) y0 y1 y2 y3 y4 y5 y6 y7 y8))
 | 0 => fun _ _ _ _ _ _ _ _ _ r h => by simp [spec_l14Straight.j0] at h
 | k + 1 => by
  have ih0 := spec_l14Straight.mono_l k
  ·
   intro y0 y1 y2 y3 y4 y5 y6 y7 y8
   unfold spec_l14Straight.j0
   repeat' first
   | (with_reducible exact ih0 _ _ _ _ _ _ _ _ _)
   | (with_reducible exact LeO.refl _)
   | (with_reducible exact LeO.none _)
   | (with_reducible refine LeO.ite ?_ ?_)
   | (with_reducible refine LeO.bind ?_ (fun _ => ?_))
theorem spec_l14Straight.mono : ∀ a0 a1 a2 a3 a4 a5 a6 k,LeO (spec_l14Straight.f k a0 a1 a2 a3 a4 a5 a6) (spec_l14Straight.f (k + 1) a0 a1 a2 a3 a4 a5 a6) := by
 intro a0 a1 a2 a3 a4 a5 a6 k
 have ih0 := spec_l14Straight.mono_l k
 unfold spec_l14Straight.f
 repeat' first
   | (with_reducible exact ih0 _ _ _ _ _ _ _ _ _)
   | (with_reducible exact LeO.refl _)
   | (with_reducible exact LeO.none _)
   | (with_reducible refine LeO.ite ?_ ?_)
   | (with_reducible refine LeO.bind ?_ (fun _ => ?_))
set_option maxHeartbeats 8000000 in
set_option maxRecDepth 100000 in
theorem spec_l14Straight.calls (k : Nat) (a0_0 : Int) (a0_1 : Int) (a0_2 : Int) (a0_3 : Int) (a0_4 : Int) (a0_5 : Int) (a0_6 : Int) (r : Bool) (w : World) (h : spec_l14Straight.f k a0_0 a0_1 a0_2 a0_3 a0_4 a0_5 a0_6 = some r) :
  Calls Try.prog 55 #[.agg #[.int .i64 a0_0,.int .i64 a0_1,.int .i64 a0_2,.int .i64 a0_3,.int .i64 a0_4,.int .i64 a0_5,.int .i64 a0_6]] w fun e w' => e = .returned (.bool r) ∧ Below w.heap.size w w' := by
 have hu49 := Try.underlying49;have HB := aS (Below.refl w.heap.size w);have H : (if a0_0 = 13 then (spec_l14Straight.j0 k a0_0 (a0_0 == 13) a0_0 a0_1 a0_2 a0_3 a0_4 a0_5 a0_6) else (spec_l14Straight.j0 k a0_0 (a0_0 == 14) a0_0 a0_1 a0_2 a0_3 a0_4 a0_5 a0_6)) = some r := h;clear h;have HC2 := aS H;clear H;go_enter Try.func55,Try.ntmps55;go_upto_if 5 with (first | ((with_reducible refine gate_dst (N := 1) rfl ?_);refine boxE (w := w) oL (cs := #[.int .i64 a0_0,.int .i64 a0_1,.int .i64 a0_2,.int .i64 a0_3,.int .i64 a0_4,.int .i64 a0_5,.int .i64 a0_6]) (t := 49) ?_;clear HB;intro gb101 w3 HB BK101 GW101;have GE101 := GW101;refine zz7 BK101.out ?_;intros));(try simp only [Act.put,List.setIfInBounds_toArray,List.set_cons_zero,List.set_cons_succ]);go_cut [5] (fun v5 wc => ∃ (kq : Nat) (x5_1 : Bool),v5 = .bool x5_1 ∧ Aside0 (spec_l14Straight.j0 kq a0_0 x5_1 a0_0 a0_1 a0_2 a0_3 a0_4 a0_5 a0_6 = some r) ∧ Aside0 (kq ≤ k) ∧ Aside0 (wc.heap[gb101]? = some (.cells #[.int .i64 a0_0,.int .i64 a0_1,.int .i64 a0_2,.int .i64 a0_3,.int .i64 a0_4,.int .i64 a0_5,.int .i64 a0_6] 49 (0,0))) ∧ Aside0 (Below w.heap.size w wc))
 case first =>
  have H := HC2.out;clear HC2;by_cases c5 : a0_0 = 13;{rw [if_pos c5] at H;obtain ⟨c5b0,c5b1⟩ := eT c5;clear c5;(first | rw [c5b0] | (simp only [i64_w,i32_w];rw [c5b0]) | skip);have H' := aS H;clear H;go_wp2;go_meet;case rel => exact ⟨_,((a0_0 == 13)),oE,H',⟨by first | omega | exact Nat.le_refl _⟩,⟨oB BK101.out⟩,⟨oL⟩⟩};{rw [if_neg c5] at H;obtain ⟨c5b0,c5b1⟩ := eF c5;(first | rw [c5b0] | (simp only [i64_w,i32_w];rw [c5b0]) | skip);have H' := aS H;clear H;go_wp2;go_meet;case rel => exact ⟨_,((a0_0 == 14)),oE,H',⟨by first | omega | exact Nat.le_refl _⟩,⟨oB BK101.out⟩,⟨oL⟩⟩}
 case rest =>
  clear HC2;obtain ⟨kq,x5_1,rfl,HA,HJ1,BK101,HB⟩ := hcut;cases kq with
  | zero => exact absurd HA.out (by simp [spec_l14Straight.j0])
  | succ kj1 =>
   have H := HA.out;clear HA;simp only [spec_l14Straight.j0] at H;by_cases c6 : x5_1 = true;{subst c6;replace H := iT H;obtain rfl := Option.some.inj H;go_wp2;go_ret;exact ⟨oE,oL⟩}
   ·
    replace c6 := Bool.eq_false_iff.mpr c6;subst c6;replace H := iF H;by_cases c7 : a0_0 = 15
    ·
     rw [if_pos c7] at H;obtain ⟨c7b0,c7b1⟩ := eT c7;clear c7;by_cases c8 : a0_6 = 2;{rw [if_pos c8] at H;obtain ⟨c8b0,c8b1⟩ := eT c8;clear c8;obtain rfl := Option.some.inj H;refine zz7 BK101.out ?_;intros;go_wp2;go_ret;exact ⟨oE,oL⟩}
     ·
      rw [if_neg c8] at H;obtain ⟨c8b0,c8b1⟩ := eF c8;by_cases c10 : a0_6 = 5;{rw [if_pos c10] at H;obtain ⟨c10b0,c10b1⟩ := eT c10;clear c10;obtain rfl := Option.some.inj H;refine zz7 BK101.out ?_;intros;go_wp2;go_ret;exact ⟨oE,oL⟩};{rw [if_neg c10] at H;obtain ⟨c10b0,c10b1⟩ := eF c10;obtain rfl := Option.some.inj H;refine zz7 BK101.out ?_;intros;go_wp2;go_ret;exact ⟨oE,oL⟩}
    ·
     rw [if_neg c7] at H;obtain ⟨c7b0,c7b1⟩ := eF c7;by_cases c13 : a0_0 = 19;{rw [if_pos c13] at H;obtain ⟨c13b0,c13b1⟩ := eT c13;clear c13;obtain rfl := Option.some.inj H;refine zz7 BK101.out ?_;intros;go_wp2;go_ret;exact ⟨oE,oL⟩};{rw [if_neg c13] at H;obtain ⟨c13b0,c13b1⟩ := eF c13;obtain rfl := Option.some.inj H;go_wp2;go_ret;exact ⟨oE,oL⟩}

/-! ### spec_l15List: function 56 -/
def spec_l15List.l0 : Nat → List (S49) → Int → List (S96) → Int → Int → Option ((List (S49)) × Int)
 | 0,_,_,_,_,_ => none
 | k + 1,x4,x5,x9,x10,x11 => if x11 < x10 then (if 0 ≤ x11 then (if x11 < (x9.length : Int) then (if x4.length < 2513169434916 then ((some (x4 ++ [(⟨(rd_T96 x9 x11).f0.f0,(rd_T96 x9 x11).f0.f1,(rd_T96 x9 x11).f0.f2,(⟨(rd_T96 x9 x11).f0.f3.f0,(rd_T96 x9 x11).f0.f3.f1,(rd_T96 x9 x11).f0.f3.f2⟩ : S47),(rd_T96 x9 x11).f0.f4⟩ : S49)] : List (S49))).bind fun y104 => ((spec_l14Straight.f k ((rd_T96 x9 x11).f0.f0) ((rd_T96 x9 x11).f0.f1) ((rd_T96 x9 x11).f0.f2) ((rd_T96 x9 x11).f0.f3.f0) ((rd_T96 x9 x11).f0.f3.f1) ((rd_T96 x9 x11).f0.f3.f2) ((rd_T96 x9 x11).f0.f4)).bind fun t107 => (if t107 = true then (spec_l15List.l0 k y104 (wrap64 (x5 + 1)) x9 x10 (wrap64 (x11 + 1))) else (spec_l15List.l0 k y104 x5 x9 x10 (wrap64 (x11 + 1)))))) else (none)) else (none)) else (none)) else (some (x4,x5))
def spec_l15List.f (k : Nat) (a0_0 : Int) (a0_1 : Int) (l0_2 : List (S96)) : Option ((List (S49)) × Int) := spec_l15List.l0 k ([] : List (S49)) 0 l0_2 (l0_2.length : Int) 0
theorem spec_l15List.mono_l : ∀ k,(∀ y0 y1 y2 y3 y4,LeO (spec_l15List.l0 k y0 y1 y2 y3 y4) (spec_l15List.l0 (k + 1) y0 y1 y2 y3 y4))
 | 0 => fun _ _ _ _ _ r h => by simp [spec_l15List.l0] at h
 | k + 1 => by
  have ih0 := spec_l15List.mono_l k
  ·
   intro y0 y1 y2 y3 y4
   unfold spec_l15List.l0
   repeat' first
   | (with_reducible exact ih0 _ _ _ _ _)
   | (with_reducible exact spec_l14Straight.mono _ _ _ _ _ _ _ _)
   | (with_reducible exact LeO.refl _)
   | (with_reducible exact LeO.none _)
   | (with_reducible refine LeO.ite ?_ ?_)
   | (with_reducible refine LeO.bind ?_ (fun _ => ?_))
theorem spec_l15List.mono : ∀ a0 a1 a2 k,LeO (spec_l15List.f k a0 a1 a2) (spec_l15List.f (k + 1) a0 a1 a2) := by
 intro a0 a1 a2 k
 have ih0 := spec_l15List.mono_l k
 unfold spec_l15List.f
 repeat' first
   | (with_reducible exact ih0 _ _ _ _ _)
   | (with_reducible exact spec_l14Straight.mono _ _ _ _ _ _ _ _)
   | (with_reducible exact LeO.refl _)
   | (with_reducible exact LeO.none _)
   | (with_reducible refine LeO.ite ?_ ?_)
   | (with_reducible refine LeO.bind ?_ (fun _ => ?_))
set_option maxHeartbeats 8000000 in
set_option maxRecDepth 100000 in
theorem spec_l15List.calls (k : Nat) (a0_0 : Int) (a0_1 : Int) (A0_2 : Option Addr) (c0_2 : Nat) (l0_2 : List (S96)) (r1 : List (S49)) (r2 : Int) (w : World) (hr0_2 : Kd.C k96 w A0_2 l0_2.length l0_2) (hc0_2 : l0_2.length ≤ c0_2) (h : spec_l15List.f k a0_0 a0_1 l0_2 = some (r1,r2)) :
  Calls Try.prog 56 #[.agg #[.int .i64 a0_0,.int .i64 a0_1,.slice A0_2 l0_2.length c0_2]] w fun e w' => ∃ v0_ : Value,e = .returned (.tuple #[v0_,.int .i64 r2]) ∧ Kd.R k49 49 w' w.heap.size (fun _ => True) v0_ r1 ∧ Below w.heap.size w w' := by
 have hu29 := Try.underlying29;have hu96 := Try.underlying96;have hu49 := Try.underlying49;have HR0_2 := aS hr0_2;have HC0_2 := aS hc0_2;clear hr0_2 hc0_2;have HB := aS (Below.refl w.heap.size w);have H : (spec_l15List.l0 k ([] : List (S49)) 0 l0_2 (l0_2.length : Int) 0) = some (r1,r2) := h;clear h;have H' := aS H;clear H;go_enter Try.func56,Try.ntmps56;go_wp2_with (first | ((with_reducible refine gate_dst (N := 1) rfl ?_);refine boxE (w := w) oL (cs := #[.int .i64 a0_0,.int .i64 a0_1,.slice A0_2 l0_2.length c0_2]) (t := 29) ?_;clear HB;intro gb101 w2 HB BK101 GW101;have GE101 := GW101;refine zz3 BK101.out ?_;intros));go_loopg [4,5,11] k (fun kq v4 v5 v11 w' => ∃ (x4_1 : List (S49)) (x5_1 : Int) (x11_1 : Int),v5 = .int .i64 x5_1 ∧ v11 = .int .i64 x11_1 ∧ Aside0 (spec_l15List.l0 kq x4_1 x5_1 l0_2 (l0_2.length : Int) x11_1 = some (r1,r2)) ∧ Aside0 (kq ≤ k) ∧ Aside0 (Kd.R k49 49 w' w.heap.size (fun _ => True) v4 x4_1) ∧ Aside0 (w'.heap[gb101]? = some (.cells #[.int .i64 a0_0,.int .i64 a0_1,(.slice A0_2 l0_2.length c0_2)] 29 (0,0))) ∧ Aside0 (Below w.heap.size w w'))
 case atStart => exact ⟨(([] : List (S49))),(0),(0),oE,oE,H',⟨Nat.le_refl _⟩,⟨by first | exact Kd.R_nil _ _ _ _ _ | exact Kd.N_nil _ _ _ _ _ | exact Kd.V_nil _ _ _ _ _ | exact Kd.Q_nil _ _ _ _ _ | exact Kd.S_nil _ _ _ _ _⟩,⟨oB BK101.out⟩,⟨oL⟩⟩
 case round =>
  clear H';obtain ⟨x4_1,x5_1,x11_1,rfl,rfl,HA,HK1,HO_4,BK101,HB⟩ := hrel;cases gk with
  | zero => exact absurd HA.out (by simp [spec_l15List.l0])
  | succ k1 =>
   have H := HA.out;clear HA;simp only [spec_l15List.l0] at H;by_cases c4 : x11_1 < (l0_2.length : Int)
   ·
    rw [if_pos c4] at H;have c4b0 : decide (x11_1 < (l0_2.length : Int)) = true := decide_eq_true c4;clear c4;by_cases c5 : 0 ≤ x11_1
    ·
     rw [if_pos c5] at H;have c5b0 : decide (0 ≤ x11_1) = true := decide_eq_true c5;clear c5;by_cases c6 : x11_1 < (l0_2.length : Int)
     ·
      rw [if_pos c6] at H;have c6b0 : decide (x11_1 < (l0_2.length : Int)) = true := decide_eq_true c6;clear c6;by_cases c7 : x4_1.length < 2513169434916
      ·
       rw [if_pos c7] at H;have LMc7 := aS c7;clear c7;obtain ⟨y104,hy104⟩ : ∃ y_ : List (S49),y_ = (x4_1 ++ [(⟨(rd_T96 l0_2 x11_1).f0.f0,(rd_T96 l0_2 x11_1).f0.f1,(rd_T96 l0_2 x11_1).f0.f2,(⟨(rd_T96 l0_2 x11_1).f0.f3.f0,(rd_T96 l0_2 x11_1).f0.f3.f1,(rd_T96 l0_2 x11_1).f0.f3.f2⟩ : S47),(rd_T96 l0_2 x11_1).f0.f4⟩ : S49)]) := ⟨_,rfl⟩;replace H : ((spec_l14Straight.f k1 ((rd_T96 l0_2 x11_1).f0.f0) ((rd_T96 l0_2 x11_1).f0.f1) ((rd_T96 l0_2 x11_1).f0.f2) ((rd_T96 l0_2 x11_1).f0.f3.f0) ((rd_T96 l0_2 x11_1).f0.f3.f1) ((rd_T96 l0_2 x11_1).f0.f3.f2) ((rd_T96 l0_2 x11_1).f0.f4)).bind fun t107 => (if t107 = true then (spec_l15List.l0 k1 y104 (wrap64 (x5_1 + 1)) l0_2 (l0_2.length : Int) (wrap64 (x11_1 + 1))) else (spec_l15List.l0 k1 y104 x5_1 l0_2 (l0_2.length : Int) (wrap64 (x11_1 + 1))))) = some (r1,r2) := by first | (rw [hy104];with_reducible exact H) | (have H2_ := (Option.bind_some _ _).symm.trans H;rw [hy104];with_reducible exact H2_) | (have H2_ := (Option.bind_some _ _).symm.trans H;with_reducible exact H2_) | with_reducible exact H | (rw [hy104];exact H) | exact H
       have Ny104 := aS hy104;clear hy104;obtain ⟨t107,A80,H⟩ := bE H;have A8 := aS A80;clear A80;by_cases c9 : t107 = true
       ·
        subst c9;replace H := iT H;have H' := aS H;clear H;have p102 : 0 ≤ (x11_1 : Int) := of_decide_eq_true (by first | (with_reducible assumption) | assumption);have q102 : x11_1 < (l0_2.length : Int) := of_decide_eq_true (by first | (with_reducible assumption) | assumption);obtain ⟨ad102,e102,hx102_0,hx102_1,hx102_2,hx102_3,hx102_4,hx102_5,hx102_6,hx102_7,hx102_8⟩ := at_T96 HR0_2.out x11_1 p102 q102;cases e102
        replace hx102_0 := oJ HB hx102_0;replace hx102_1 := oJ HB hx102_1;replace hx102_2 := oJ HB hx102_2;replace hx102_3 := oJ HB hx102_3;replace hx102_4 := oJ HB hx102_4;replace hx102_5 := oJ HB hx102_5;replace hx102_6 := oJ HB hx102_6;replace hx102_7 := oJ HB hx102_7;replace hx102_8 := oJ HB hx102_8;replace p102 := eq_true p102;replace q102 := eq_true q102;go_wp2_with (first | ((with_reducible refine gate_dst (N := 7) rfl ?_);refine box_event ?hg (N := 7) ?hd (cs := #[.int .i64 0,.int .i64 0,.int .i64 0,.int .i64 0,.int .i64 0,.int .i64 0,.int .i64 0,.int .i64 0,.bool false]) (t := 96) ?hr ?_;(case hd => rfl);(case hg => rfl);(case hr => first | (go_simp;done) | (go_simp;rfl));intro gb103 hg w10 hbox hb;refine mk8 (Kd.R_below (oR HO_4.out) hb) (blk_below (oB BK101.out) hb) (below_step oL hb) (hbox) ((oS hg oL : w.heap.size ≤ gb103)) ((oS hg oL : w.heap.size ≤ gb103)) ((oN hg (oB BK101.out) : gb101 ≠ gb103)) ((oM hg (oB BK101.out) : gb103 ≠ gb101)) ?_;clear HO_4 BK101 HB;intro HO_4 BK101 HB BK103 GW103 GE103 NB101_103 NB103_101;clear hb hbox hg;have hnb11 := NB103_101.out;have hnc11 := NB101_103.out;refine zz9 BK103.out ?_;intros) | ((with_reducible refine gate_builtin (b := .append) (xs := #[.tmp 15,.tmp 18]) rfl ?_);at_builtin;refine Kd.R_append k49 (w0 := w) w.heap.size rfl (.tmp 15) (.tmp 18) 97 49 (.agg #[(.int .i64 0),(.int .i64 0),(.int .i64 0),(.int .i64 0),(.int .i64 0),(.int .i64 0),(.int .i64 0)]) 56 rfl Try.underlying97 info49 rfl (by decide) (by omega) u4 x4_1 (⟨(rd_T96 l0_2 x11_1).f0.f0,(rd_T96 l0_2 x11_1).f0.f1,(rd_T96 l0_2 x11_1).f0.f2,(⟨(rd_T96 l0_2 x11_1).f0.f3.f0,(rd_T96 l0_2 x11_1).f0.f3.f1,(rd_T96 l0_2 x11_1).f0.f3.f2⟩ : S47),(rd_T96 l0_2 x11_1).f0.f4⟩ : S49) [.int .i64 ((rd_T96 l0_2 x11_1).f0.f0),.int .i64 ((rd_T96 l0_2 x11_1).f0.f1),.int .i64 ((rd_T96 l0_2 x11_1).f0.f2),.int .i64 ((rd_T96 l0_2 x11_1).f0.f3.f0),.int .i64 ((rd_T96 l0_2 x11_1).f0.f3.f1),.int .i64 ((rd_T96 l0_2 x11_1).f0.f3.f2),.int .i64 ((rd_T96 l0_2 x11_1).f0.f4)] (fun _ => True) (fun _ => False) rfl (by first | (go_simp;done) | (go_simp;rfl)) ?aP (fun _ hk => hk.elim) ?aF ?aO ?aB ?aS ?aL ?_;(case aP => exact k49_mkM _ _ _ (⟨(rd_T96 l0_2 x11_1).f0.f0,(rd_T96 l0_2 x11_1).f0.f1,(rd_T96 l0_2 x11_1).f0.f2,(⟨(rd_T96 l0_2 x11_1).f0.f3.f0,(rd_T96 l0_2 x11_1).f0.f3.f1,(rd_T96 l0_2 x11_1).f0.f3.f2⟩ : S47),(rd_T96 l0_2 x11_1).f0.f4⟩ : S49));(case aB => exact oL);(case aF => exact (fun _ _ => trivial));(case aO => exact (by (with_reducible repeat (first | apply Kd.R_alloc | apply Kd.R_drewN | apply Kd.R_drew));exact Kd.R_mono (oFr HO_4.out BK103.out) (fun _ hk => trivial)));(case aS => exact (below_size oL));(case aL => have := LMc7.out;omega);intro v105 w13 ho hb hg hat;rw [← Ny104.out] at ho;refine mk4 (blk_grown (g := gb101) (o := .cells #[.int .i64 a0_0,.int .i64 a0_1,.slice (some ad102) l0_2.length c0_2] 29 (0,0)) (oG BK101.out NB101_103.out) hg (Kd.R_ne HO_4.out BK101.out (by decide))) (blk_grown (g := gb103) (o := .cells #[.int .i64 ((rd_T96 l0_2 x11_1).f0.f0),.int .i64 ((rd_T96 l0_2 x11_1).f0.f1),.int .i64 ((rd_T96 l0_2 x11_1).f0.f2),.int .i64 ((rd_T96 l0_2 x11_1).f0.f3.f0),.int .i64 ((rd_T96 l0_2 x11_1).f0.f3.f1),.int .i64 ((rd_T96 l0_2 x11_1).f0.f3.f2),.int .i64 ((rd_T96 l0_2 x11_1).f0.f4),.int .i64 ((rd_T96 l0_2 x11_1).f1),.bool ((rd_T96 l0_2 x11_1).f2)] 96 (0,0)) (oP BK103.out) hg (Kd.R_ne HO_4.out BK103.out (by decide))) (hb) (ho) ?_;clear BK101 BK103 HB HO_4;intro BK101 BK103 HB HO106;clear ho hb hg hat;refine zz9 BK103.out ?_;intros) | ((with_reducible refine gate_callee (f := 55) rfl ?_);refine goesL_ (some 22) rfl rfl Try.func55 (by kernel_rfl) rfl #[.agg #[.int .i64 ((rd_T96 l0_2 x11_1).f0.f0),.int .i64 ((rd_T96 l0_2 x11_1).f0.f1),.int .i64 ((rd_T96 l0_2 x11_1).f0.f2),.int .i64 ((rd_T96 l0_2 x11_1).f0.f3.f0),.int .i64 ((rd_T96 l0_2 x11_1).f0.f3.f1),.int .i64 ((rd_T96 l0_2 x11_1).f0.f3.f2),.int .i64 ((rd_T96 l0_2 x11_1).f0.f4)]] rfl oA ?_;(with_reducible refine (spec_l14Straight.calls k1 ((rd_T96 l0_2 x11_1).f0.f0) ((rd_T96 l0_2 x11_1).f0.f1) ((rd_T96 l0_2 x11_1).f0.f2) ((rd_T96 l0_2 x11_1).f0.f3.f0) ((rd_T96 l0_2 x11_1).f0.f3.f1) ((rd_T96 l0_2 x11_1).f0.f3.f2) ((rd_T96 l0_2 x11_1).f0.f4) true _ A8.out).mono ?_);rintro e w15 ⟨rfl,hb⟩;refine ⟨_,rfl,?_⟩;refine mk4 (Kd.R_below (oR HO106.out) hb) (blk_below (oB BK101.out) hb) (blk_below (oB BK103.out) hb) (below_step oL hb) ?_;clear HO106 BK101 BK103 HB;intro HO106 BK101 BK103 HB));go_roundg k1;case measure => have := HK1.out;omega
        case rel => exact ⟨(y104),(wrap64 (x5_1 + 1)),(wrap64 (x11_1 + 1)),oE,oE,H',⟨by have := HK1.out;omega⟩,⟨by (with_reducible repeat (first | apply Kd.R_alloc | apply Kd.R_drewN | apply Kd.R_drew));exact HO106.out⟩,⟨oB BK101.out⟩,⟨oL⟩⟩
       ·
        replace c9 := Bool.eq_false_iff.mpr c9;subst c9;replace H := iF H;have H' := aS H;clear H;have p102 : 0 ≤ (x11_1 : Int) := of_decide_eq_true (by first | (with_reducible assumption) | assumption);have q102 : x11_1 < (l0_2.length : Int) := of_decide_eq_true (by first | (with_reducible assumption) | assumption);obtain ⟨ad102,e102,hx102_0,hx102_1,hx102_2,hx102_3,hx102_4,hx102_5,hx102_6,hx102_7,hx102_8⟩ := at_T96 HR0_2.out x11_1 p102 q102;cases e102
        replace hx102_0 := oJ HB hx102_0;replace hx102_1 := oJ HB hx102_1;replace hx102_2 := oJ HB hx102_2;replace hx102_3 := oJ HB hx102_3;replace hx102_4 := oJ HB hx102_4;replace hx102_5 := oJ HB hx102_5;replace hx102_6 := oJ HB hx102_6;replace hx102_7 := oJ HB hx102_7;replace hx102_8 := oJ HB hx102_8;replace p102 := eq_true p102;replace q102 := eq_true q102;go_wp2_with (first | ((with_reducible refine gate_dst (N := 7) rfl ?_);refine box_event ?hg (N := 7) ?hd (cs := #[.int .i64 0,.int .i64 0,.int .i64 0,.int .i64 0,.int .i64 0,.int .i64 0,.int .i64 0,.int .i64 0,.bool false]) (t := 96) ?hr ?_;(case hd => rfl);(case hg => rfl);(case hr => first | (go_simp;done) | (go_simp;rfl));intro gb103 hg w16 hbox hb;refine mk8 (Kd.R_below (oR HO_4.out) hb) (blk_below (oB BK101.out) hb) (below_step oL hb) (hbox) ((oS hg oL : w.heap.size ≤ gb103)) ((oS hg oL : w.heap.size ≤ gb103)) ((oN hg (oB BK101.out) : gb101 ≠ gb103)) ((oM hg (oB BK101.out) : gb103 ≠ gb101)) ?_;clear HO_4 BK101 HB;intro HO_4 BK101 HB BK103 GW103 GE103 NB101_103 NB103_101;clear hb hbox hg;have hnb17 := NB103_101.out;have hnc17 := NB101_103.out;refine zz9 BK103.out ?_;intros) | ((with_reducible refine gate_builtin (b := .append) (xs := #[.tmp 15,.tmp 18]) rfl ?_);at_builtin;refine Kd.R_append k49 (w0 := w) w.heap.size rfl (.tmp 15) (.tmp 18) 97 49 (.agg #[(.int .i64 0),(.int .i64 0),(.int .i64 0),(.int .i64 0),(.int .i64 0),(.int .i64 0),(.int .i64 0)]) 56 rfl Try.underlying97 info49 rfl (by decide) (by omega) u4 x4_1 (⟨(rd_T96 l0_2 x11_1).f0.f0,(rd_T96 l0_2 x11_1).f0.f1,(rd_T96 l0_2 x11_1).f0.f2,(⟨(rd_T96 l0_2 x11_1).f0.f3.f0,(rd_T96 l0_2 x11_1).f0.f3.f1,(rd_T96 l0_2 x11_1).f0.f3.f2⟩ : S47),(rd_T96 l0_2 x11_1).f0.f4⟩ : S49) [.int .i64 ((rd_T96 l0_2 x11_1).f0.f0),.int .i64 ((rd_T96 l0_2 x11_1).f0.f1),.int .i64 ((rd_T96 l0_2 x11_1).f0.f2),.int .i64 ((rd_T96 l0_2 x11_1).f0.f3.f0),.int .i64 ((rd_T96 l0_2 x11_1).f0.f3.f1),.int .i64 ((rd_T96 l0_2 x11_1).f0.f3.f2),.int .i64 ((rd_T96 l0_2 x11_1).f0.f4)] (fun _ => True) (fun _ => False) rfl (by first | (go_simp;done) | (go_simp;rfl)) ?aP (fun _ hk => hk.elim) ?aF ?aO ?aB ?aS ?aL ?_;(case aP => exact k49_mkM _ _ _ (⟨(rd_T96 l0_2 x11_1).f0.f0,(rd_T96 l0_2 x11_1).f0.f1,(rd_T96 l0_2 x11_1).f0.f2,(⟨(rd_T96 l0_2 x11_1).f0.f3.f0,(rd_T96 l0_2 x11_1).f0.f3.f1,(rd_T96 l0_2 x11_1).f0.f3.f2⟩ : S47),(rd_T96 l0_2 x11_1).f0.f4⟩ : S49));(case aB => exact oL);(case aF => exact (fun _ _ => trivial));(case aO => exact (by (with_reducible repeat (first | apply Kd.R_alloc | apply Kd.R_drewN | apply Kd.R_drew));exact Kd.R_mono (oFr HO_4.out BK103.out) (fun _ hk => trivial)));(case aS => exact (below_size oL));(case aL => have := LMc7.out;omega);intro v105 w19 ho hb hg hat;rw [← Ny104.out] at ho;refine mk4 (blk_grown (g := gb101) (o := .cells #[.int .i64 a0_0,.int .i64 a0_1,.slice (some ad102) l0_2.length c0_2] 29 (0,0)) (oG BK101.out NB101_103.out) hg (Kd.R_ne HO_4.out BK101.out (by decide))) (blk_grown (g := gb103) (o := .cells #[.int .i64 ((rd_T96 l0_2 x11_1).f0.f0),.int .i64 ((rd_T96 l0_2 x11_1).f0.f1),.int .i64 ((rd_T96 l0_2 x11_1).f0.f2),.int .i64 ((rd_T96 l0_2 x11_1).f0.f3.f0),.int .i64 ((rd_T96 l0_2 x11_1).f0.f3.f1),.int .i64 ((rd_T96 l0_2 x11_1).f0.f3.f2),.int .i64 ((rd_T96 l0_2 x11_1).f0.f4),.int .i64 ((rd_T96 l0_2 x11_1).f1),.bool ((rd_T96 l0_2 x11_1).f2)] 96 (0,0)) (oP BK103.out) hg (Kd.R_ne HO_4.out BK103.out (by decide))) (hb) (ho) ?_;clear BK101 BK103 HB HO_4;intro BK101 BK103 HB HO106;clear ho hb hg hat;refine zz9 BK103.out ?_;intros) | ((with_reducible refine gate_callee (f := 55) rfl ?_);refine goesL_ (some 22) rfl rfl Try.func55 (by kernel_rfl) rfl #[.agg #[.int .i64 ((rd_T96 l0_2 x11_1).f0.f0),.int .i64 ((rd_T96 l0_2 x11_1).f0.f1),.int .i64 ((rd_T96 l0_2 x11_1).f0.f2),.int .i64 ((rd_T96 l0_2 x11_1).f0.f3.f0),.int .i64 ((rd_T96 l0_2 x11_1).f0.f3.f1),.int .i64 ((rd_T96 l0_2 x11_1).f0.f3.f2),.int .i64 ((rd_T96 l0_2 x11_1).f0.f4)]] rfl oA ?_;(with_reducible refine (spec_l14Straight.calls k1 ((rd_T96 l0_2 x11_1).f0.f0) ((rd_T96 l0_2 x11_1).f0.f1) ((rd_T96 l0_2 x11_1).f0.f2) ((rd_T96 l0_2 x11_1).f0.f3.f0) ((rd_T96 l0_2 x11_1).f0.f3.f1) ((rd_T96 l0_2 x11_1).f0.f3.f2) ((rd_T96 l0_2 x11_1).f0.f4) false _ A8.out).mono ?_);rintro e w21 ⟨rfl,hb⟩;refine ⟨_,rfl,?_⟩;refine mk4 (Kd.R_below (oR HO106.out) hb) (blk_below (oB BK101.out) hb) (blk_below (oB BK103.out) hb) (below_step oL hb) ?_;clear HO106 BK101 BK103 HB;intro HO106 BK101 BK103 HB));go_roundg k1;case measure => have := HK1.out;omega
        case rel => exact ⟨(y104),(x5_1),(wrap64 (x11_1 + 1)),oE,oE,H',⟨by have := HK1.out;omega⟩,⟨by (with_reducible repeat (first | apply Kd.R_alloc | apply Kd.R_drewN | apply Kd.R_drew));exact HO106.out⟩,⟨oB BK101.out⟩,⟨oL⟩⟩
      · rw [if_neg c7] at H;exact absurd H (by simp)
     · rw [if_neg c6] at H;exact absurd H (by simp)
    · rw [if_neg c5] at H;exact absurd H (by simp)
   · rw [if_neg c4] at H;have c4b0 : decide (x11_1 < (l0_2.length : Int)) = false := decide_eq_false c4;clear c4;simp only [Option.some.injEq,Prod.mk.injEq] at H;obtain ⟨rfl,rfl⟩ := H;go_wp2;go_ret2;exact ⟨_,oE,by (with_reducible repeat (first | apply Kd.R_alloc | apply Kd.R_drewN | apply Kd.R_drew));exact HO_4.out,oL⟩

/-! ### spec_l1Flag: function 120 -/
def spec_l1Flag.f (a0 : Bool) (a1 : Int) : Option (Int) := if a0 = true then (some a1) else (some 0)
set_option maxHeartbeats 8000000 in
set_option maxRecDepth 100000 in
theorem spec_l1Flag.calls (a0 : Bool) (a1 : Int) (r : Int) (w : World) (h : spec_l1Flag.f a0 a1 = some r) :
  Calls Try.prog 120 #[.bool a0,.int .i64 a1] w fun e w' => e = .returned (.int .i64 r) ∧ Drawn0 w w' := by
 have H : (if a0 = true then (some a1) else (some 0)) = some r := h;clear h;by_cases c3 : a0 = true;{subst c3;replace H := iT H;obtain rfl := Option.some.inj H;go_enter Try.func120,Try.ntmps120;go_wp2;go_ret;exact ⟨by first | rfl | (simp;done) | (simp [*];done),by repeat (first | exact Drawn0.refl _ | apply Drawn0.step)⟩};{replace c3 := Bool.eq_false_iff.mpr c3;subst c3;replace H := iF H;obtain rfl := Option.some.inj H;go_enter Try.func120,Try.ntmps120;go_wp2;go_ret;exact ⟨by first | rfl | (simp;done) | (simp [*];done),by repeat (first | exact Drawn0.refl _ | apply Drawn0.step)⟩}

end Go.Proofs.Ytapfngfaiojmhaa.R
