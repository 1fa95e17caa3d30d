-- Made by this session's program gprint.py out of the translation. Not trusted: Lean checks it.
import Derived.Test.YtjnifnhpnccpcaaFx0
namespace Go.Proofs.Ytjnifnhpnccpcaa.F
open Go.RowKit Go.Proofs.YtjnifnhpnccpcaaW.PrintWords Go.Proofs.YtjnifnhpnccpcaaW.PrintLast Go.Proofs.YtjnifnhpnccpcaaW.PrintMore
attribute [local go_sem] max2_int min2_int max_two min_two max_three min_three max_four min_four   -- for this text's walks alone
set_option linter.unusedVariables false
set_option linter.unusedSimpArgs false

/-! ### spec_l16At: function 116 -/
def spec_l16At.l0 : Nat → Int → List (S101) → Int → Int → Option (Int)
 | 0,_,_,_,_ => none
 | k + 1,x1,x8,x9,x10 => if x10 < x9 then (if 0 ≤ x10 then (if x10 < (x8.length : Int) then (if ((rd_T101 x8 x10).f0.f0) = x1 then (some x10) else (spec_l16At.l0 k x1 x8 x9 (wrap64 (x10 + 1)))) else (none)) else (none)) else (some (-1))
def spec_l16At.f (k : Nat) (a0_0 : Int) (a0_1 : Int) (l0_2 : List (S101)) (a1 : Int) : Option (Int) := spec_l16At.l0 k a1 l0_2 (l0_2.length : Int) 0
theorem spec_l16At.mono_l : ∀ k,(∀ y0 y1 y2 y3,LeO (spec_l16At.l0 k y0 y1 y2 y3) (spec_l16At.l0 (k + 1) y0 y1 y2 y3))
 | 0 => fun _ _ _ _ r h => by simp [spec_l16At.l0] at h
 | k + 1 => by
  have ih0 := spec_l16At.mono_l k
  ·
   intro y0 y1 y2 y3
   unfold spec_l16At.l0
   with_reducible repeat' first | exact ih0 _ _ _ _ | exact LeO.refl _ | exact LeO.none _ | refine LeO.ite ?_ ?_ | refine LeO.bind ?_ (fun _ => ?_)
theorem spec_l16At.mono : ∀ a0 a1 a2 a3 k,LeO (spec_l16At.f k a0 a1 a2 a3) (spec_l16At.f (k + 1) a0 a1 a2 a3) := by
 intro a0 a1 a2 a3 k
 have ih0 := spec_l16At.mono_l k
 unfold spec_l16At.f
 with_reducible repeat' first | exact ih0 _ _ _ _ | exact LeO.refl _ | exact LeO.none _ | refine LeO.ite ?_ ?_ | refine LeO.bind ?_ (fun _ => ?_)
set_option maxHeartbeats 8000000 in
set_option maxRecDepth 100000 in
theorem spec_l16At.calls (k : Nat) (a0_0 : Int) (a0_1 : Int) (A0_2 : Option Addr) (c0_2 : Nat) (l0_2 : List (S101)) (a1 : Int) (r : Int) (w : World) (hr0_2 : Kd.C k101 w A0_2 l0_2.length l0_2) (hc0_2 : l0_2.length ≤ c0_2) (h : spec_l16At.f k a0_0 a0_1 l0_2 a1 = some r) :
  Calls Try.prog 116 #[.agg #[.int .i64 a0_0,.int .i64 a0_1,.slice A0_2 l0_2.length c0_2],.int .i64 a1] w fun e w' => e = .returned (.int .i64 r) ∧ Below w.heap.size w w' := by
 have hu61 := Try.underlying61;have hu101 := Try.underlying101;have HR0_2 := aS hr0_2;have HC0_2 := aS hc0_2;clear hr0_2 hc0_2;have HB := aS (Below.refl w.heap.size w);unfold spec_l16At.f at h;have H := h;clear h;have H' := aS H;clear H;go_enter Try.func116,Try.ntmps116;go_wp2_with (first | ((with_reducible refine gD 2 rfl ?_);refine bX (w:=w) #[.int .i64 a0_0,.int .i64 a0_1,.slice A0_2 l0_2.length c0_2] 61 ?_;clear HB;intro gb101 w3 HB BK101 GW101;refine zz3 BK101.out ?_;intros));go_loopg [10] k (fun kq v10 w' => ∃ (x10_1 : Int),v10 = .int .i64 x10_1 ∧ Aside0 (spec_l16At.l0 kq a1 l0_2 (l0_2.length : Int) x10_1 = some r) ∧ Aside0 (kq ≤ k) ∧ Aside0 (w'.heap[gb101]? = some (.cells #[.int .i64 a0_0,.int .i64 a0_1,(.slice A0_2 l0_2.length c0_2)] 61 (0,0))) ∧ Aside0 (Below w.heap.size w w'))
 case atStart => exact ⟨(0),oE,H',⟨Nat.le_refl _⟩,⟨oB BK101.out⟩,⟨oL⟩⟩
 case round =>
  clear H';obtain ⟨x10_1,rfl,HA,HK1,BK101,HB⟩ := hrel;cases gk with
  | zero => exact absurd HA.out (by simp [spec_l16At.l0])
  | succ k1 =>
   have H := HA.out;clear HA;simp only [spec_l16At.l0] at H;by_cases c5 : x10_1 < (l0_2.length : Int)
   ·
    rw [if_pos c5] at H;have c5b0 := decide_eq_true c5;clear c5;by_cases c6 : 0 ≤ x10_1
    ·
     rw [if_pos c6] at H;have c6b0 := decide_eq_true c6;clear c6;by_cases c7 : x10_1 < (l0_2.length : Int)
     ·
      rw [if_pos c7] at H;have c7b0 := decide_eq_true c7;clear c7;by_cases c8 : ((rd_T101 l0_2 x10_1).f0.f0) = a1
      ·
       rw [if_pos c8] at H;obtain ⟨c8b0,c8b1⟩ := eT c8;clear c8;obtain rfl := Option.some.inj H;have p102 : 0 ≤ (x10_1 : Int) := oZ;have q102 : x10_1 < (l0_2.length : Int) := oZ;obtain ⟨ad102,A102_2,c102_2,e102,hx102_0,hx102_1,hx102_2,hx102_3,hl102_2,hi102_2⟩ := at_T101 HR0_2.out x10_1 p102 q102;cases e102
       replace hx102_0 := oJ HB hx102_0;replace hx102_1 := oJ HB hx102_1;replace hx102_2 := oJ HB hx102_2;replace hx102_3 := oJ HB hx102_3;have HR102_2 := aS hi102_2;have HC102_2 := aS hl102_2;clear hi102_2 hl102_2;replace p102 := eq_true p102;replace q102 := eq_true q102;go_wp2_with (first | ((with_reducible refine gD 6 rfl ?_);refine bY #[.int .i64 0,.int .i64 0,.slice none 0 0,.int .i64 0] 101 ?_;intro gb103 hg w9 hbox hb;refine mk6 (xB BK101 hb) (xL hb) (hbox) (xG hg HB) (xN hg BK101) (xM hg BK101) ?_;clear BK101 HB;intro BK101 HB BK103 GW103 NB101_103 NB103_101;clear hb hbox hg;have hnb10 := NB103_101.out;have hnc10 := NB101_103.out;refine zz4 BK103.out ?_;intros));go_ret;exact ⟨oE,oL⟩
      ·
       rw [if_neg c8] at H;obtain ⟨c8b0,c8b1⟩ := eF c8;have H' := aS H;clear H;have p102 : 0 ≤ (x10_1 : Int) := oZ;have q102 : x10_1 < (l0_2.length : Int) := oZ;obtain ⟨ad102,A102_2,c102_2,e102,hx102_0,hx102_1,hx102_2,hx102_3,hl102_2,hi102_2⟩ := at_T101 HR0_2.out x10_1 p102 q102;cases e102
       replace hx102_0 := oJ HB hx102_0;replace hx102_1 := oJ HB hx102_1;replace hx102_2 := oJ HB hx102_2;replace hx102_3 := oJ HB hx102_3;have HR102_2 := aS hi102_2;have HC102_2 := aS hl102_2;clear hi102_2 hl102_2;replace p102 := eq_true p102;replace q102 := eq_true q102;go_wp2_with (first | ((with_reducible refine gD 6 rfl ?_);refine bY #[.int .i64 0,.int .i64 0,.slice none 0 0,.int .i64 0] 101 ?_;intro gb103 hg w12 hbox hb;refine mk6 (xB BK101 hb) (xL hb) (hbox) (xG hg HB) (xN hg BK101) (xM hg BK101) ?_;clear BK101 HB;intro BK101 HB BK103 GW103 NB101_103 NB103_101;clear hb hbox hg;have hnb13 := NB103_101.out;have hnc13 := NB101_103.out;refine zz4 BK103.out ?_;intros));go_roundg k1;case measure => have := HK1.out;omega
       case rel => exact ⟨(wrap64 (x10_1 + 1)),oE,H',⟨by have := HK1.out;omega⟩,⟨by exact (oG BK101.out NB101_103.out)⟩,⟨oL⟩⟩
     · rw [if_neg c7] at H;exact absurd H (by simp)
    · rw [if_neg c6] at H;exact absurd H (by simp)
   · rw [if_neg c5] at H;have c5b0 := decide_eq_false c5;clear c5;obtain rfl := Option.some.inj H;go_wp2;go_ret;exact ⟨oE,oL⟩

/-! ### spec_l16OwnUnit: function 117 -/
def spec_l16OwnUnit.f (a0_0 : Int) (a0_1 : Int) (l0_2 : List (S88)) : Option (Int × Int × (List (S88))) := (some (([] : List (S88)) : List (S88))).bind fun y103 => (if y103.length + l0_2.length < 1954687338268 then (some (a0_0,a0_1,(y103 ++ l0_2))) else (none))
set_option maxHeartbeats 8000000 in
set_option maxRecDepth 100000 in
theorem spec_l16OwnUnit.calls (a0_0 : Int) (a0_1 : Int) (A0_2 : Option Addr) (c0_2 : Nat) (l0_2 : List (S88)) (r1 : Int) (r2 : Int) (r3 : List (S88)) (w : World) (hr0_2 : Kd.C k88 w A0_2 l0_2.length l0_2) (hc0_2 : l0_2.length ≤ c0_2) (h : spec_l16OwnUnit.f a0_0 a0_1 l0_2 = some (r1,r2,r3)) :
  Calls Try.prog 117 #[.agg #[.int .i64 a0_0,.int .i64 a0_1,.slice A0_2 l0_2.length c0_2]] w fun e w' => ∃ v2_ : Value,e = .returned (.agg #[.int .i64 r1,.int .i64 r2,v2_]) ∧ Kd.R k88 88 w' w.heap.size (fun _ => True) v2_ r3 ∧ Below w.heap.size w w' := by
 have hu41 := Try.underlying41;have HR0_2 := aS hr0_2;have HC0_2 := aS hc0_2;clear hr0_2 hc0_2;have HB := aS (Below.refl w.heap.size w);unfold spec_l16OwnUnit.f at h;have H := h;clear h;obtain ⟨y103,hy103,H⟩ := bS H
 have Ny103 := aS hy103;clear hy103;by_cases c2 : y103.length + l0_2.length < 1954687338268
 ·
  rw [if_pos c2] at H;have LMc2 := aS c2;clear c2;obtain ⟨y106,hy106⟩ : ∃ y_ : List (S88),y_ = (y103 ++ l0_2) := ⟨_,rfl⟩;rw [← hy106] at H
  have Ny106 := aS hy106;clear hy106;simp only [Option.some.injEq,Prod.mk.injEq] at H;obtain ⟨rfl,rfl,rfl⟩ := H;go_enter Try.func117,Try.ntmps117;go_wp2_with (first | ((with_reducible refine gD 1 rfl ?_);refine bX (w:=w) #[.int .i64 a0_0,.int .i64 a0_1,.slice A0_2 l0_2.length c0_2] 41 ?_;clear HB;intro gb101 w3 HB BK101 GW101) | ((with_reducible refine gD 2 rfl ?_);refine bY #[.int .i64 0,.int .i64 0,.slice none 0 0] 41 ?_;intro gb102 hg w4 hbox hb;refine mk6 (xB BK101 hb) (xL hb) (hbox) (xG hg HB) (xN hg BK101) (xM hg BK101) ?_;clear BK101 HB;intro BK101 HB BK102 GW102 NB101_102 NB102_101;clear hb hbox hg) | ((with_reducible refine gate_dst (N := 3) rfl ?_);refine Kd.R_lit k88 _ 88 ?hg (N := 3) ?hd (xs := ([] : List (S88))) (inner := []) (ok := fun _ => True) (okp := fun _ => True) ?hr ?hp (fun _ hk => hk) trivial (Below.refl _ _) (Nat.le_refl _) (by simp) ?_;(case hd => rfl);(case hg => rfl);(case hr => first | (go_simp;done) | (go_simp;rfl));(case hp => exact (Reps.none _ _));intro v104 w5 ho6 hb hg_ hnew_;clear hg_ hnew_;(first | rw [← Ny103.out] at ho6 | (simp only [Int.reduceToNat] at ho6;rw [← Ny103.out] at ho6));refine mk4 (Kd.R_lower ho6 (below_size oL)) (xB BK101 hb) (xB BK102 hb) (xL hb) ?_;clear BK101 BK102 HB;intro HO105 BK101 BK102 HB;clear hb ho6;have hnb7 := NB101_102.out;have hnc7 := NB102_101.out;refine zz3 BK101.out ?_;intros) | ((with_reducible refine gate_builtin (b := .append) (xs := #[.tmp 3,.tmp 5]) rfl ?_);at_builtin;refine Kd.R_append_rows k88 (w0 := w) w.heap.size rfl (.tmp 3) (.tmp 5) 39 88 (.agg #[(.int .i64 0),(.int .i64 0),(.int .i64 0),(.int .i64 0),(.int .i64 0),(.int .i64 0),(.int .i64 0),(.int .i64 0),(.bool false)]) 72 rfl Try.underlying39 info88 rfl (by decide) (by omega) v104 y103 l0_2 _ _ _ (fun _ => True) (fun _ => False) rfl rfl ?aO ?aR (fun _ _ h => h) (fun _ h => h.elim) ?aF ?aB ?aS ?aL ?_;(case aR => repeat (first | exact (Kd.C_below HR0_2.out HB.out) | (with_reducible refine Kd.C_alloc ?_ _) | (with_reducible refine Kd.C_drewN ?_ _) | (with_reducible refine Kd.C_drew ?_)));(case aB => exact oL);(case aF => exact (fun _ _ => trivial));(case aO => exact (oR HO105.out));(case aS => exact (below_size oL));(case aL => have := LMc2.out;omega);intro v107 w9 ho hb hg hat;rw [← Ny106.out] at ho;refine mk4 (blk_grown (g := gb101) (o := .cells #[.int .i64 a0_0,.int .i64 a0_1,.slice A0_2 l0_2.length c0_2] 41 (0,0)) (oB BK101.out) hg (Kd.R_ne HO105.out BK101.out (by decide))) (blk_grown (g := gb102) (o := .cells #[.int .i64 0,.int .i64 0,.slice none 0 0] 41 (0,0)) (oB BK102.out) hg (Kd.R_ne HO105.out BK102.out (by decide))) (hb) (ho) ?_;clear BK101 BK102 HB HO105;intro BK101 BK102 HB HO108;clear ho hb hg hat;obtain ⟨Ao10,co10,eo10⟩ := Kd.R_slice HO108.out;subst eo10;refine zz3 BK101.out ?_;intros;refine zz3 BK102.out ?_;intros));refine bodyPost_ret (results_cell_row rfl _ _ gb102 41 #[.int .i64 a0_0,.int .i64 a0_1,.slice Ao10 y106.length co10] (0,0) _ rfl (oP BK102.out) Try.underlying41 rfl (by kernel_rfl)) rfl ?_;exact ⟨_,oE,by (with_reducible repeat (first | apply Kd.R_alloc | apply Kd.R_drewN | apply Kd.R_drew));exact Kd.R_mono (oEr HO108.out BK101.out BK102.out) (fun _ hk => trivial),oL⟩
 · rw [if_neg c2] at H;exact absurd H (by simp)

end Go.Proofs.Ytjnifnhpnccpcaa.F
