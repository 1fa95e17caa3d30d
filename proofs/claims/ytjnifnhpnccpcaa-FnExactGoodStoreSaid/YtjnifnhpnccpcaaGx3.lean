-- Made by this session's program gprint.py out of the translation. Not trusted: Lean checks it.
import Derived.Test.YtjnifnhpnccpcaaGx0
namespace Go.Proofs.Ytjnifnhpnccpcaa.G
open Go.RowKit Go.Proofs.YtjnifnhpnccpcaaW.PrintWords Go.Proofs.YtjnifnhpnccpcaaW.PrintLast Go.Proofs.YtjnifnhpnccpcaaW.PrintMore
attribute [local go_sem] max2_int min2_int max_two min_two max_three min_three max_four min_four   -- for this text's walks alone
set_option linter.unusedVariables false
set_option linter.unusedSimpArgs false

/-! ### laws_szMicroS: function 50 -/
def laws_szMicroS.f (l0 : List (S120)) (a1 : Int) : Option (Int) := if (wrap64 (a1 - (l0.length : Int))) < 0 then (some (-1)) else (some (wrap64 (a1 - (l0.length : Int))))
set_option maxHeartbeats 8000000 in
set_option maxRecDepth 100000 in
theorem laws_szMicroS.calls (A0 : Option Addr) (c0 : Nat) (l0 : List (S120)) (a1 : Int) (r : Int) (w : World) (hr0 : Kd.C k120 w A0 l0.length l0) (hc0 : l0.length ≤ c0) (h : laws_szMicroS.f l0 a1 = some r) :
  Calls Try.prog 50 #[.slice A0 l0.length c0,.int .i64 a1] w fun e w' => e = .returned (.int .i64 r) ∧ Drawn0 w w' := by
 have HR0 := aS hr0;have HC0 := aS hc0;clear hr0 hc0;have H : (if (wrap64 (a1 - (l0.length : Int))) < 0 then (some (-1)) else (some (wrap64 (a1 - (l0.length : Int))))) = some r := h;clear h;by_cases c3 : (wrap64 (a1 - (l0.length : Int))) < 0;{rw [if_pos c3] at H;have c3b0 : decide ((wrap64 (a1 - (l0.length : Int))) < 0) = true := decide_eq_true c3;clear c3;obtain rfl := Option.some.inj H;go_enter Try.func50,Try.ntmps50;go_wp2;go_ret;exact ⟨by first | rfl | (simp;done) | (simp [*];done),by repeat (first | exact Drawn0.refl _ | apply Drawn0.step)⟩};{rw [if_neg c3] at H;have c3b0 : decide ((wrap64 (a1 - (l0.length : Int))) < 0) = false := decide_eq_false c3;clear c3;obtain rfl := Option.some.inj H;go_enter Try.func50,Try.ntmps50;go_wp2;go_ret;exact ⟨by first | rfl | (simp;done) | (simp [*];done),by repeat (first | exact Drawn0.refl _ | apply Drawn0.step)⟩}

/-! ### laws_szUnit: function 19 -/
def laws_szUnit.f (a0_0 : Int) (a0_1 : Int) (l0_2 : List (S120)) (a1 : Int) : Option (Int) := (laws_szMicroS.f l0_2 a1).bind fun t102 => (if t102 < 0 then (some (-1)) else (some t102))
set_option maxHeartbeats 8000000 in
set_option maxRecDepth 100000 in
theorem laws_szUnit.calls (a0_0 : Int) (a0_1 : Int) (A0_2 : Option Addr) (c0_2 : Nat) (l0_2 : List (S120)) (a1 : Int) (r : Int) (w : World) (hr0_2 : Kd.C k120 w A0_2 l0_2.length l0_2) (hc0_2 : l0_2.length ≤ c0_2) (h : laws_szUnit.f a0_0 a0_1 l0_2 a1 = some r) :
  Calls Try.prog 19 #[.agg #[.int .i64 a0_0,.int .i64 a0_1,.slice A0_2 l0_2.length c0_2],.int .i64 a1] w fun e w' => e = .returned (.int .i64 r) ∧ Below w.heap.size w w' := by
 have hu36 := Try.underlying36;have HR0_2 := aS hr0_2;have HC0_2 := aS hc0_2;clear hr0_2 hc0_2;have HB := aS (Below.refl w.heap.size w);have H : ((laws_szMicroS.f l0_2 a1).bind fun t102 => (if t102 < 0 then (some (-1)) else (some t102))) = some r := h;clear h;obtain ⟨t102,A30,H⟩ := bE H;have A3 := aS A30;clear A30;by_cases c4 : t102 < 0
 ·
  rw [if_pos c4] at H;have c4b0 : decide (t102 < 0) = true := decide_eq_true c4;clear c4;obtain rfl := Option.some.inj H;go_enter Try.func19,Try.ntmps19;go_wp2_with (first | ((with_reducible refine gate_dst (N := 2) rfl ?_);refine boxE (w := w) oL (cs := #[.int .i64 a0_0,.int .i64 a0_1,.slice A0_2 l0_2.length c0_2]) (t := 36) ?_;clear HB;intro gb101 w5 HB BK101 GW101;have GE101 := GW101;obtain ⟨Z6_0,Z6_1,Z6_2⟩ := cz3 BK101.out;obtain ⟨Y6_0,Y6_1,Y6_2⟩ := fz3 BK101.out) | ((with_reducible refine gate_callee (f := 50) rfl ?_);refine goesL_ (some 8) rfl rfl Try.func50 (by kernel_rfl) rfl #[.slice A0_2 l0_2.length c0_2,.int .i64 a1] rfl (by (try simp only [List.map_toArray,List.map_cons,List.map_nil]);first | done | rfl | (simp only [List.length_drop,List.length_take];rfl)) ?_;(with_reducible refine (laws_szMicroS.calls _ _ l0_2 a1 t102 _ ?side1 ?side2 A3.out).mono ?_);(case side1 => exact oC HR0_2.out);(case side2 => exact HC0_2.out);rintro e w' ⟨rfl,⟨nd,rfl⟩⟩;refine ⟨_,rfl,?_⟩));go_ret;exact ⟨oE,oL⟩
 ·
  rw [if_neg c4] at H;have c4b0 : decide (t102 < 0) = false := decide_eq_false c4;clear c4;obtain rfl := Option.some.inj H;go_enter Try.func19,Try.ntmps19;go_wp2_with (first | ((with_reducible refine gate_dst (N := 2) rfl ?_);refine boxE (w := w) oL (cs := #[.int .i64 a0_0,.int .i64 a0_1,.slice A0_2 l0_2.length c0_2]) (t := 36) ?_;clear HB;intro gb101 w7 HB BK101 GW101;have GE101 := GW101;obtain ⟨Z8_0,Z8_1,Z8_2⟩ := cz3 BK101.out;obtain ⟨Y8_0,Y8_1,Y8_2⟩ := fz3 BK101.out) | ((with_reducible refine gate_callee (f := 50) rfl ?_);refine goesL_ (some 8) rfl rfl Try.func50 (by kernel_rfl) rfl #[.slice A0_2 l0_2.length c0_2,.int .i64 a1] rfl (by (try simp only [List.map_toArray,List.map_cons,List.map_nil]);first | done | rfl | (simp only [List.length_drop,List.length_take];rfl)) ?_;(with_reducible refine (laws_szMicroS.calls _ _ l0_2 a1 t102 _ ?side1 ?side2 A3.out).mono ?_);(case side1 => exact oC HR0_2.out);(case side2 => exact HC0_2.out);rintro e w' ⟨rfl,⟨nd,rfl⟩⟩;refine ⟨_,rfl,?_⟩));go_ret;exact ⟨oE,oL⟩

/-! ### laws_szCached: function 112 -/
def laws_szCached.f (a0_0 : Int) (a0_1 : Int) (l0_2 : List (S120)) (a0_3 : Int) (a1 : Int) : Option (Int) := (laws_szUnit.f a0_0 a0_1 l0_2 a1).bind fun t102 => (if t102 < 0 then (some (-1)) else (some t102))
set_option maxHeartbeats 8000000 in
set_option maxRecDepth 100000 in
theorem laws_szCached.calls (a0_0 : Int) (a0_1 : Int) (A0_2 : Option Addr) (c0_2 : Nat) (l0_2 : List (S120)) (a0_3 : Int) (a1 : Int) (r : Int) (w : World) (hr0_2 : Kd.C k120 w A0_2 l0_2.length l0_2) (hc0_2 : l0_2.length ≤ c0_2) (h : laws_szCached.f a0_0 a0_1 l0_2 a0_3 a1 = some r) :
  Calls Try.prog 112 #[.agg #[.int .i64 a0_0,.int .i64 a0_1,.slice A0_2 l0_2.length c0_2,.int .i64 a0_3],.int .i64 a1] w fun e w' => e = .returned (.int .i64 r) ∧ Below w.heap.size w w' := by
 have hu124 := Try.underlying124;have hu36 := Try.underlying36;have HR0_2 := aS hr0_2;have HC0_2 := aS hc0_2;clear hr0_2 hc0_2;have HB := aS (Below.refl w.heap.size w);have H : ((laws_szUnit.f a0_0 a0_1 l0_2 a1).bind fun t102 => (if t102 < 0 then (some (-1)) else (some t102))) = some r := h;clear h;obtain ⟨t102,A30,H⟩ := bE H;have A3 := aS A30;clear A30;by_cases c4 : t102 < 0
 ·
  rw [if_pos c4] at H;have c4b0 : decide (t102 < 0) = true := decide_eq_true c4;clear c4;obtain rfl := Option.some.inj H;go_enter Try.func112,Try.ntmps112;go_wp2_with (first | ((with_reducible refine gate_dst (N := 2) rfl ?_);refine boxE (w := w) oL (cs := #[.int .i64 a0_0,.int .i64 a0_1,.slice A0_2 l0_2.length c0_2,.int .i64 a0_3]) (t := 124) ?_;clear HB;intro gb101 w5 HB BK101 GW101;have GE101 := GW101;obtain ⟨Z6_0,Z6_1,Z6_2,Z6_3⟩ := cz4 BK101.out;obtain ⟨Y6_0,Y6_1,Y6_2,Y6_3⟩ := fz4 BK101.out) | ((with_reducible refine gate_callee (f := 19) rfl ?_);refine goesL_ (some 8) rfl rfl Try.func19 (by kernel_rfl) rfl #[.agg #[.int .i64 a0_0,.int .i64 a0_1,.slice A0_2 l0_2.length c0_2],.int .i64 a1] rfl (by (try simp only [List.map_toArray,List.map_cons,List.map_nil]);first | done | rfl | (simp only [List.length_drop,List.length_take];rfl)) ?_;(with_reducible refine (laws_szUnit.calls a0_0 a0_1 _ _ l0_2 a1 t102 _ ?side1 ?side2 A3.out).mono ?_);(case side1 => exact oC HR0_2.out);(case side2 => exact HC0_2.out);rintro e w7 ⟨rfl,hb⟩;refine ⟨_,rfl,?_⟩;have n0_ := aS (blk_below (oB BK101.out) hb);have n1_ := aS (below_step oL hb);clear BK101;clear HB;have BK101 := n0_;have HB := n1_;clear n0_ n1_;(try clear hb);(try clear hb2);(try clear hk);(try clear hi)));go_ret;exact ⟨oE,oL⟩
 ·
  rw [if_neg c4] at H;have c4b0 : decide (t102 < 0) = false := decide_eq_false c4;clear c4;obtain rfl := Option.some.inj H;go_enter Try.func112,Try.ntmps112;go_wp2_with (first | ((with_reducible refine gate_dst (N := 2) rfl ?_);refine boxE (w := w) oL (cs := #[.int .i64 a0_0,.int .i64 a0_1,.slice A0_2 l0_2.length c0_2,.int .i64 a0_3]) (t := 124) ?_;clear HB;intro gb101 w8 HB BK101 GW101;have GE101 := GW101;obtain ⟨Z9_0,Z9_1,Z9_2,Z9_3⟩ := cz4 BK101.out;obtain ⟨Y9_0,Y9_1,Y9_2,Y9_3⟩ := fz4 BK101.out) | ((with_reducible refine gate_callee (f := 19) rfl ?_);refine goesL_ (some 8) rfl rfl Try.func19 (by kernel_rfl) rfl #[.agg #[.int .i64 a0_0,.int .i64 a0_1,.slice A0_2 l0_2.length c0_2],.int .i64 a1] rfl (by (try simp only [List.map_toArray,List.map_cons,List.map_nil]);first | done | rfl | (simp only [List.length_drop,List.length_take];rfl)) ?_;(with_reducible refine (laws_szUnit.calls a0_0 a0_1 _ _ l0_2 a1 t102 _ ?side1 ?side2 A3.out).mono ?_);(case side1 => exact oC HR0_2.out);(case side2 => exact HC0_2.out);rintro e w10 ⟨rfl,hb⟩;refine ⟨_,rfl,?_⟩;have n0_ := aS (blk_below (oB BK101.out) hb);have n1_ := aS (below_step oL hb);clear BK101;clear HB;have BK101 := n0_;have HB := n1_;clear n0_ n1_;(try clear hb);(try clear hb2);(try clear hk);(try clear hi)));go_ret;exact ⟨oE,oL⟩

/-! ### laws_szCachedS: function 74 -/
def laws_szCachedS.l0 : Nat → List (S124) → Int → Int → Option (Int)
 | 0,_,_,_ => none
 | k + 1,x0,x1,x5 => if x5 < (x0.length : Int) then (if 0 ≤ x5 then ((laws_szCached.f ((rd_T124 x0 x5).f0.f0) ((rd_T124 x0 x5).f0.f1) ((rd_T124 x0 x5).f0.f2) ((rd_T124 x0 x5).f1) x1).bind fun t102 => (if t102 < 0 then (some (-1)) else (laws_szCachedS.l0 k x0 t102 (wrap64 (x5 + 1))))) else (none)) else (some x1)
def laws_szCachedS.f (k : Nat) (l0 : List (S124)) (a1 : Int) : Option (Int) := if (wrap64 (a1 - (l0.length : Int))) < 0 then (some (-1)) else (laws_szCachedS.l0 k l0 (wrap64 (a1 - (l0.length : Int))) 0)
theorem laws_szCachedS.mono_l : ∀ k,(∀ y0 y1 y2,LeO (laws_szCachedS.l0 k y0 y1 y2) (laws_szCachedS.l0 (k + 1) y0 y1 y2))
 | 0 => fun _ _ _ r h => by simp [laws_szCachedS.l0] at h
 | k + 1 => by
  have ih0 := laws_szCachedS.mono_l k
  ·
   intro y0 y1 y2
   unfold laws_szCachedS.l0
   repeat' first
   | (with_reducible exact ih0 _ _ _)
   | (with_reducible exact LeO.refl _)
   | (with_reducible exact LeO.none _)
   | (with_reducible refine LeO.ite ?_ ?_)
   | (with_reducible refine LeO.bind ?_ (fun _ => ?_))
   | exact ih0 _ _ _
   | exact LeO.none _
   | refine LeO.ite ?_ ?_
   | refine LeO.bind ?_ (fun _ => ?_)
theorem laws_szCachedS.mono : ∀ a0 a1 k,LeO (laws_szCachedS.f k a0 a1) (laws_szCachedS.f (k + 1) a0 a1) := by
 intro a0 a1 k
 have ih0 := laws_szCachedS.mono_l k
 unfold laws_szCachedS.f
 repeat' first
   | (with_reducible exact ih0 _ _ _)
   | (with_reducible exact LeO.refl _)
   | (with_reducible exact LeO.none _)
   | (with_reducible refine LeO.ite ?_ ?_)
   | (with_reducible refine LeO.bind ?_ (fun _ => ?_))
   | exact ih0 _ _ _
   | exact LeO.none _
   | refine LeO.ite ?_ ?_
   | refine LeO.bind ?_ (fun _ => ?_)
set_option maxHeartbeats 8000000 in
set_option maxRecDepth 100000 in
theorem laws_szCachedS.calls (k : Nat) (A0 : Option Addr) (c0 : Nat) (l0 : List (S124)) (a1 : Int) (r : Int) (w : World) (hr0 : Kd.C k124 w A0 l0.length l0) (hc0 : l0.length ≤ c0) (h : laws_szCachedS.f k l0 a1 = some r) :
  Calls Try.prog 74 #[.slice A0 l0.length c0,.int .i64 a1] w fun e w' => e = .returned (.int .i64 r) ∧ Below w.heap.size w w' := by
 have hu124 := Try.underlying124;have HR0 := aS hr0;have HC0 := aS hc0;clear hr0 hc0;have HB := aS (Below.refl w.heap.size w);have H : (if (wrap64 (a1 - (l0.length : Int))) < 0 then (some (-1)) else (laws_szCachedS.l0 k l0 (wrap64 (a1 - (l0.length : Int))) 0)) = some r := h;clear h;by_cases c3 : (wrap64 (a1 - (l0.length : Int))) < 0;{rw [if_pos c3] at H;have c3b0 : decide ((wrap64 (a1 - (l0.length : Int))) < 0) = true := decide_eq_true c3;clear c3;obtain rfl := Option.some.inj H;go_enter Try.func74,Try.ntmps74;go_wp2;go_ret;exact ⟨oE,oL⟩}
 ·
  rw [if_neg c3] at H;have c3b0 : decide ((wrap64 (a1 - (l0.length : Int))) < 0) = false := decide_eq_false c3;clear c3;have H' := aS H;clear H;go_enter Try.func74,Try.ntmps74;go_wp2;go_loopg [1,5] k (fun kq v1 v5 w' => ∃ (x1_1 : Int) (x5_1 : Int),v1 = .int .i64 x1_1 ∧ v5 = .int .i64 x5_1 ∧ Aside0 (laws_szCachedS.l0 kq l0 x1_1 x5_1 = some r) ∧ Aside0 (kq ≤ k) ∧ Aside0 (Below w.heap.size w w'))
  case atStart => exact ⟨(wrap64 (a1 - (l0.length : Int))),(0),oE,oE,H',⟨Nat.le_refl _⟩,⟨oL⟩⟩
  case round =>
   clear H';(try clear p2);(try clear c3);(try clear c3b0);obtain ⟨x1_1,x5_1,rfl,rfl,HA,HK1,HB⟩ := hrel;cases gk with
   | zero => exact absurd HA.out (by simp [laws_szCachedS.l0])
   | succ k1 =>
    have H := HA.out;clear HA;simp only [laws_szCachedS.l0] at H;by_cases c4 : x5_1 < (l0.length : Int)
    ·
     rw [if_pos c4] at H;have c4b0 : decide (x5_1 < (l0.length : Int)) = true := decide_eq_true c4;clear c4;by_cases c5 : 0 ≤ x5_1
     ·
      rw [if_pos c5] at H;have c5b0 : decide (0 ≤ x5_1) = true := decide_eq_true c5;clear c5;obtain ⟨t102,A60,H⟩ := bE H;have A6 := aS A60;clear A60;by_cases c7 : t102 < 0
      ·
       rw [if_pos c7] at H;have c7b0 : decide (t102 < 0) = true := decide_eq_true c7;clear c7;obtain rfl := Option.some.inj H;have p101 : 0 ≤ (x5_1 : Int) := of_decide_eq_true (by first | (with_reducible assumption) | assumption);have q101 : x5_1 < (l0.length : Int) := of_decide_eq_true (by first | (with_reducible assumption) | assumption);obtain ⟨ad101,A101_2,c101_2,e101,hx101_0,hx101_1,hx101_2,hx101_3,hl101_2,hi101_2⟩ := at_T124 HR0.out x5_1 p101 q101;cases e101
       replace hx101_0 := oJ HB hx101_0;replace hx101_1 := oJ HB hx101_1;replace hx101_2 := oJ HB hx101_2;replace hx101_3 := oJ HB hx101_3;have HR101_2 := aS hi101_2;have HC101_2 := aS hl101_2;clear hi101_2 hl101_2;replace p101 := eq_true p101;replace q101 := eq_true q101;go_wp2_with (first | ((with_reducible refine gate_callee (f := 112) rfl ?_);refine goesL_ (some 23) rfl rfl Try.func112 (by kernel_rfl) rfl #[.agg #[.int .i64 ((rd_T124 l0 x5_1).f0.f0),.int .i64 ((rd_T124 l0 x5_1).f0.f1),.slice A101_2 ((rd_T124 l0 x5_1).f0.f2).length c101_2,.int .i64 ((rd_T124 l0 x5_1).f1)],.int .i64 x1_1] rfl (by (try simp only [List.map_toArray,List.map_cons,List.map_nil]);first | done | rfl | (simp only [List.length_drop,List.length_take];rfl)) ?_;(with_reducible refine (laws_szCached.calls ((rd_T124 l0 x5_1).f0.f0) ((rd_T124 l0 x5_1).f0.f1) _ _ ((rd_T124 l0 x5_1).f0.f2) ((rd_T124 l0 x5_1).f1) x1_1 t102 _ ?side1 ?side2 A6.out).mono ?_);(case side1 => exact oC HR101_2.out);(case side2 => exact HC101_2.out);rintro e w8 ⟨rfl,hb⟩;refine ⟨_,rfl,?_⟩;have n0_ := aS (below_step oL hb);clear HB;have HB := n0_;clear n0_;(try clear hb);(try clear hb2);(try clear hk);(try clear hi)));go_ret;exact ⟨oE,oL⟩
      ·
       rw [if_neg c7] at H;have c7b0 : decide (t102 < 0) = false := decide_eq_false c7;clear c7;have H' := aS H;clear H;have p101 : 0 ≤ (x5_1 : Int) := of_decide_eq_true (by first | (with_reducible assumption) | assumption);have q101 : x5_1 < (l0.length : Int) := of_decide_eq_true (by first | (with_reducible assumption) | assumption);obtain ⟨ad101,A101_2,c101_2,e101,hx101_0,hx101_1,hx101_2,hx101_3,hl101_2,hi101_2⟩ := at_T124 HR0.out x5_1 p101 q101;cases e101
       replace hx101_0 := oJ HB hx101_0;replace hx101_1 := oJ HB hx101_1;replace hx101_2 := oJ HB hx101_2;replace hx101_3 := oJ HB hx101_3;have HR101_2 := aS hi101_2;have HC101_2 := aS hl101_2;clear hi101_2 hl101_2;replace p101 := eq_true p101;replace q101 := eq_true q101;go_wp2_with (first | ((with_reducible refine gate_callee (f := 112) rfl ?_);refine goesL_ (some 23) rfl rfl Try.func112 (by kernel_rfl) rfl #[.agg #[.int .i64 ((rd_T124 l0 x5_1).f0.f0),.int .i64 ((rd_T124 l0 x5_1).f0.f1),.slice A101_2 ((rd_T124 l0 x5_1).f0.f2).length c101_2,.int .i64 ((rd_T124 l0 x5_1).f1)],.int .i64 x1_1] rfl (by (try simp only [List.map_toArray,List.map_cons,List.map_nil]);first | done | rfl | (simp only [List.length_drop,List.length_take];rfl)) ?_;(with_reducible refine (laws_szCached.calls ((rd_T124 l0 x5_1).f0.f0) ((rd_T124 l0 x5_1).f0.f1) _ _ ((rd_T124 l0 x5_1).f0.f2) ((rd_T124 l0 x5_1).f1) x1_1 t102 _ ?side1 ?side2 A6.out).mono ?_);(case side1 => exact oC HR101_2.out);(case side2 => exact HC101_2.out);rintro e w9 ⟨rfl,hb⟩;refine ⟨_,rfl,?_⟩;have n0_ := aS (below_step oL hb);clear HB;have HB := n0_;clear n0_;(try clear hb);(try clear hb2);(try clear hk);(try clear hi)));go_roundg k1;case measure => have := HK1.out;omega
       case rel => exact ⟨(t102),(wrap64 (x5_1 + 1)),oE,oE,H',⟨by have := HK1.out;omega⟩,⟨oL⟩⟩
     · rw [if_neg c5] at H;exact absurd H (by simp)
    · rw [if_neg c4] at H;have c4b0 : decide (x5_1 < (l0.length : Int)) = false := decide_eq_false c4;clear c4;obtain rfl := Option.some.inj H;go_wp2;go_ret;exact ⟨oE,oL⟩

/-! ### laws_szStore: function 32 -/
def laws_szStore.f (k : Nat) (a0_0 : Int) (a0_1 : Int) (l0_2 : List (S124)) (a1 : Int) : Option (Int) := (laws_szCachedS.f k l0_2 a1).bind fun t102 => (if t102 < 0 then (some (-1)) else (some t102))
theorem laws_szStore.mono : ∀ a0 a1 a2 a3 k,LeO (laws_szStore.f k a0 a1 a2 a3) (laws_szStore.f (k + 1) a0 a1 a2 a3) := by
 intro a0 a1 a2 a3 k
 unfold laws_szStore.f
 repeat' first
   | (with_reducible exact laws_szCachedS.mono _ _ _)
   | (with_reducible exact LeO.refl _)
   | (with_reducible exact LeO.none _)
   | (with_reducible refine LeO.ite ?_ ?_)
   | (with_reducible refine LeO.bind ?_ (fun _ => ?_))
   | exact laws_szCachedS.mono _ _ _
   | exact LeO.none _
   | refine LeO.ite ?_ ?_
   | refine LeO.bind ?_ (fun _ => ?_)
set_option maxHeartbeats 8000000 in
set_option maxRecDepth 100000 in
theorem laws_szStore.calls (k : Nat) (a0_0 : Int) (a0_1 : Int) (A0_2 : Option Addr) (c0_2 : Nat) (l0_2 : List (S124)) (a1 : Int) (r : Int) (w : World) (hr0_2 : Kd.C k124 w A0_2 l0_2.length l0_2) (hc0_2 : l0_2.length ≤ c0_2) (h : laws_szStore.f k a0_0 a0_1 l0_2 a1 = some r) :
  Calls Try.prog 32 #[.agg #[.int .i64 a0_0,.int .i64 a0_1,.slice A0_2 l0_2.length c0_2],.int .i64 a1] w fun e w' => e = .returned (.int .i64 r) ∧ Below w.heap.size w w' := by
 have hu56 := Try.underlying56;have HR0_2 := aS hr0_2;have HC0_2 := aS hc0_2;clear hr0_2 hc0_2;have HB := aS (Below.refl w.heap.size w);have H : ((laws_szCachedS.f k l0_2 a1).bind fun t102 => (if t102 < 0 then (some (-1)) else (some t102))) = some r := h;clear h;obtain ⟨t102,A30,H⟩ := bE H;have A3 := aS A30;clear A30;by_cases c4 : t102 < 0
 ·
  rw [if_pos c4] at H;have c4b0 : decide (t102 < 0) = true := decide_eq_true c4;clear c4;obtain rfl := Option.some.inj H;go_enter Try.func32,Try.ntmps32;go_wp2_with (first | ((with_reducible refine gate_dst (N := 2) rfl ?_);refine boxE (w := w) oL (cs := #[.int .i64 a0_0,.int .i64 a0_1,.slice A0_2 l0_2.length c0_2]) (t := 56) ?_;clear HB;intro gb101 w5 HB BK101 GW101;have GE101 := GW101;obtain ⟨Z6_0,Z6_1,Z6_2⟩ := cz3 BK101.out;obtain ⟨Y6_0,Y6_1,Y6_2⟩ := fz3 BK101.out) | ((with_reducible refine gate_callee (f := 74) rfl ?_);refine goesL_ (some 8) rfl rfl Try.func74 (by kernel_rfl) rfl #[.slice A0_2 l0_2.length c0_2,.int .i64 a1] rfl (by (try simp only [List.map_toArray,List.map_cons,List.map_nil]);first | done | rfl | (simp only [List.length_drop,List.length_take];rfl)) ?_;(with_reducible refine (laws_szCachedS.calls k _ _ l0_2 a1 t102 _ ?side1 ?side2 A3.out).mono ?_);(case side1 => exact oC HR0_2.out);(case side2 => exact HC0_2.out);rintro e w7 ⟨rfl,hb⟩;refine ⟨_,rfl,?_⟩;have n0_ := aS (blk_below (oB BK101.out) hb);have n1_ := aS (below_step oL hb);clear BK101;clear HB;have BK101 := n0_;have HB := n1_;clear n0_ n1_;(try clear hb);(try clear hb2);(try clear hk);(try clear hi)));go_ret;exact ⟨oE,oL⟩
 ·
  rw [if_neg c4] at H;have c4b0 : decide (t102 < 0) = false := decide_eq_false c4;clear c4;obtain rfl := Option.some.inj H;go_enter Try.func32,Try.ntmps32;go_wp2_with (first | ((with_reducible refine gate_dst (N := 2) rfl ?_);refine boxE (w := w) oL (cs := #[.int .i64 a0_0,.int .i64 a0_1,.slice A0_2 l0_2.length c0_2]) (t := 56) ?_;clear HB;intro gb101 w8 HB BK101 GW101;have GE101 := GW101;obtain ⟨Z9_0,Z9_1,Z9_2⟩ := cz3 BK101.out;obtain ⟨Y9_0,Y9_1,Y9_2⟩ := fz3 BK101.out) | ((with_reducible refine gate_callee (f := 74) rfl ?_);refine goesL_ (some 8) rfl rfl Try.func74 (by kernel_rfl) rfl #[.slice A0_2 l0_2.length c0_2,.int .i64 a1] rfl (by (try simp only [List.map_toArray,List.map_cons,List.map_nil]);first | done | rfl | (simp only [List.length_drop,List.length_take];rfl)) ?_;(with_reducible refine (laws_szCachedS.calls k _ _ l0_2 a1 t102 _ ?side1 ?side2 A3.out).mono ?_);(case side1 => exact oC HR0_2.out);(case side2 => exact HC0_2.out);rintro e w10 ⟨rfl,hb⟩;refine ⟨_,rfl,?_⟩;have n0_ := aS (blk_below (oB BK101.out) hb);have n1_ := aS (below_step oL hb);clear BK101;clear HB;have BK101 := n0_;have HB := n1_;clear n0_ n1_;(try clear hb);(try clear hb2);(try clear hk);(try clear hi)));go_ret;exact ⟨oE,oL⟩

/-! ### spec_l14Straight: function 55 -/
def spec_l14Straight.j0 : Nat → Int → Bool → Int → Int → Int → Int → Int → Int → Int → Option (Bool)
 | 0,_,_,_,_,_,_,_,_,_ => none
 | k + 1,x4,x5,x102000,x102001,x102002,x102003,x102004,x102005,x102006 => if x5 = true then (some false) else (if x4 = 15 then (if x102006 = 2 then (some true) else (if x102006 = 5 then (some true) else (some (x102006 == 6)))) else (if x4 = 19 then (some (x102006 != 0)) else (some true)))
def spec_l14Straight.f (k : Nat) (a0_0 : Int) (a0_1 : Int) (a0_2 : Int) (a0_3 : Int) (a0_4 : Int) (a0_5 : Int) (a0_6 : Int) : Option (Bool) := if a0_0 = 13 then (spec_l14Straight.j0 k a0_0 (a0_0 == 13) a0_0 a0_1 a0_2 a0_3 a0_4 a0_5 a0_6) else (spec_l14Straight.j0 k a0_0 (a0_0 == 14) a0_0 a0_1 a0_2 a0_3 a0_4 a0_5 a0_6)
theorem spec_l14Straight.mono_l : ∀ k,(∀ y0 y1 y2 y3 y4 y5 y6 y7 y8,LeO (spec_l14Straight.j0 k y0 y1 y2 y3 y4 y5 y6 y7 y8) (spec_l14Straight.j0 (k + 1) y0 y1 y2 y3 y4 y5 y6 y7 y8))
 | 0 => fun _ _ _ _ _ _ _ _ _ r h => by simp [spec_l14Straight.j0] at h
 | k + 1 => by
  have ih0 := spec_l14Straight.mono_l k
  ·
   intro y0 y1 y2 y3 y4 y5 y6 y7 y8
   unfold spec_l14Straight.j0
   repeat' first
   | (with_reducible exact ih0 _ _ _ _ _ _ _ _ _)
   | (with_reducible exact LeO.refl _)
   | (with_reducible exact LeO.none _)
   | (with_reducible refine LeO.ite ?_ ?_)
   | (with_reducible refine LeO.bind ?_ (fun _ => ?_))
   | exact ih0 _ _ _ _ _ _ _ _ _
   | exact LeO.none _
   | refine LeO.ite ?_ ?_
   | refine LeO.bind ?_ (fun _ => ?_)
theorem spec_l14Straight.mono : ∀ a0 a1 a2 a3 a4 a5 a6 k,LeO (spec_l14Straight.f k a0 a1 a2 a3 a4 a5 a6) (spec_l14Straight.f (k + 1) a0 a1 a2 a3 a4 a5 a6) := by
 intro a0 a1 a2 a3 a4 a5 a6 k
 have ih0 := spec_l14Straight.mono_l k
 unfold spec_l14Straight.f
 repeat' first
   | (with_reducible exact ih0 _ _ _ _ _ _ _ _ _)
   | (with_reducible exact LeO.refl _)
   | (with_reducible exact LeO.none _)
   | (with_reducible refine LeO.ite ?_ ?_)
   | (with_reducible refine LeO.bind ?_ (fun _ => ?_))
   | exact ih0 _ _ _ _ _ _ _ _ _
   | exact LeO.none _
   | refine LeO.ite ?_ ?_
   | refine LeO.bind ?_ (fun _ => ?_)
set_option maxHeartbeats 8000000 in
set_option maxRecDepth 100000 in
theorem spec_l14Straight.calls (k : Nat) (a0_0 : Int) (a0_1 : Int) (a0_2 : Int) (a0_3 : Int) (a0_4 : Int) (a0_5 : Int) (a0_6 : Int) (r : Bool) (w : World) (h : spec_l14Straight.f k a0_0 a0_1 a0_2 a0_3 a0_4 a0_5 a0_6 = some r) :
  Calls Try.prog 55 #[.agg #[.int .i64 a0_0,.int .i64 a0_1,.int .i64 a0_2,.int .i64 a0_3,.int .i64 a0_4,.int .i64 a0_5,.int .i64 a0_6]] w fun e w' => e = .returned (.bool r) ∧ Below w.heap.size w w' := by
 have hu77 := Try.underlying77;have HB := aS (Below.refl w.heap.size w);have H : (if a0_0 = 13 then (spec_l14Straight.j0 k a0_0 (a0_0 == 13) a0_0 a0_1 a0_2 a0_3 a0_4 a0_5 a0_6) else (spec_l14Straight.j0 k a0_0 (a0_0 == 14) a0_0 a0_1 a0_2 a0_3 a0_4 a0_5 a0_6)) = some r := h;clear h;have HC2 := aS H;clear H;go_enter Try.func55,Try.ntmps55;go_upto_if 5 with (first | ((with_reducible refine gate_dst (N := 1) rfl ?_);refine boxE (w := w) oL (cs := #[.int .i64 a0_0,.int .i64 a0_1,.int .i64 a0_2,.int .i64 a0_3,.int .i64 a0_4,.int .i64 a0_5,.int .i64 a0_6]) (t := 77) ?_;clear HB;intro gb101 w3 HB BK101 GW101;have GE101 := GW101;obtain ⟨Z4_0,Z4_1,Z4_2,Z4_3,Z4_4,Z4_5,Z4_6⟩ := cz7 BK101.out;obtain ⟨Y4_0,Y4_1,Y4_2,Y4_3,Y4_4,Y4_5,Y4_6⟩ := fz7 BK101.out));(try simp only [Act.put,List.setIfInBounds_toArray,List.set_cons_zero,List.set_cons_succ]);go_cut [5] (fun v5 wc => ∃ (kq : Nat) (x5_1 : Bool),v5 = .bool x5_1 ∧ Aside0 (spec_l14Straight.j0 kq a0_0 x5_1 a0_0 a0_1 a0_2 a0_3 a0_4 a0_5 a0_6 = some r) ∧ Aside0 (kq ≤ k) ∧ Aside0 (wc.heap[gb101]? = some (.cells #[.int .i64 a0_0,.int .i64 a0_1,.int .i64 a0_2,.int .i64 a0_3,.int .i64 a0_4,.int .i64 a0_5,.int .i64 a0_6] 77 (0,0))) ∧ Aside0 (Below w.heap.size w wc))
 case first =>
  have H := HC2.out;clear HC2;by_cases c5 : a0_0 = 13;{rw [if_pos c5] at H;obtain ⟨c5b0,c5b1⟩ := eT c5;clear c5;(first | rw [c5b0] | (simp only [i64_w,i32_w];rw [c5b0]) | skip);have H' := aS H;clear H;go_wp2;go_meet;case rel => exact ⟨_,((a0_0 == 13)),oE,H',⟨by first | omega | exact Nat.le_refl _⟩,⟨oB BK101.out⟩,⟨oL⟩⟩};{rw [if_neg c5] at H;obtain ⟨c5b0,c5b1⟩ := eF c5;(first | rw [c5b0] | (simp only [i64_w,i32_w];rw [c5b0]) | skip);have H' := aS H;clear H;go_wp2;go_meet;case rel => exact ⟨_,((a0_0 == 14)),oE,H',⟨by first | omega | exact Nat.le_refl _⟩,⟨oB BK101.out⟩,⟨oL⟩⟩}
 case rest =>
  clear HC2;(try clear p2);(try clear c5);(try clear c5b0);(try clear c5b1);(try clear Z4_0 Z4_1 Z4_2 Z4_3 Z4_4 Z4_5 Z4_6);(try clear Y4_0 Y4_1 Y4_2 Y4_3 Y4_4 Y4_5 Y4_6);obtain ⟨kq,x5_1,rfl,HA,HJ1,BK101,HB⟩ := hcut;cases kq with
  | zero => exact absurd HA.out (by simp [spec_l14Straight.j0])
  | succ kj1 =>
   have H := HA.out;clear HA;simp only [spec_l14Straight.j0] at H;by_cases c6 : x5_1 = true;{subst c6;replace H := iT H;obtain rfl := Option.some.inj H;go_wp2;go_ret;exact ⟨oE,oL⟩}
   ·
    replace c6 := Bool.eq_false_iff.mpr c6;subst c6;replace H := iF H;by_cases c7 : a0_0 = 15
    ·
     rw [if_pos c7] at H;obtain ⟨c7b0,c7b1⟩ := eT c7;clear c7;by_cases c8 : a0_6 = 2;{rw [if_pos c8] at H;obtain ⟨c8b0,c8b1⟩ := eT c8;clear c8;obtain rfl := Option.some.inj H;obtain ⟨Z9_0,Z9_1,Z9_2,Z9_3,Z9_4,Z9_5,Z9_6⟩ := cz7 BK101.out;obtain ⟨Y9_0,Y9_1,Y9_2,Y9_3,Y9_4,Y9_5,Y9_6⟩ := fz7 BK101.out;go_wp2;go_ret;exact ⟨oE,oL⟩}
     ·
      rw [if_neg c8] at H;obtain ⟨c8b0,c8b1⟩ := eF c8;by_cases c10 : a0_6 = 5;{rw [if_pos c10] at H;obtain ⟨c10b0,c10b1⟩ := eT c10;clear c10;obtain rfl := Option.some.inj H;obtain ⟨Z11_0,Z11_1,Z11_2,Z11_3,Z11_4,Z11_5,Z11_6⟩ := cz7 BK101.out;obtain ⟨Y11_0,Y11_1,Y11_2,Y11_3,Y11_4,Y11_5,Y11_6⟩ := fz7 BK101.out;go_wp2;go_ret;exact ⟨oE,oL⟩};{rw [if_neg c10] at H;obtain ⟨c10b0,c10b1⟩ := eF c10;obtain rfl := Option.some.inj H;obtain ⟨Z12_0,Z12_1,Z12_2,Z12_3,Z12_4,Z12_5,Z12_6⟩ := cz7 BK101.out;obtain ⟨Y12_0,Y12_1,Y12_2,Y12_3,Y12_4,Y12_5,Y12_6⟩ := fz7 BK101.out;go_wp2;go_ret;exact ⟨oE,oL⟩}
    ·
     rw [if_neg c7] at H;obtain ⟨c7b0,c7b1⟩ := eF c7;by_cases c13 : a0_0 = 19;{rw [if_pos c13] at H;obtain ⟨c13b0,c13b1⟩ := eT c13;clear c13;obtain rfl := Option.some.inj H;obtain ⟨Z14_0,Z14_1,Z14_2,Z14_3,Z14_4,Z14_5,Z14_6⟩ := cz7 BK101.out;obtain ⟨Y14_0,Y14_1,Y14_2,Y14_3,Y14_4,Y14_5,Y14_6⟩ := fz7 BK101.out;go_wp2;go_ret;exact ⟨oE,oL⟩};{rw [if_neg c13] at H;obtain ⟨c13b0,c13b1⟩ := eF c13;obtain rfl := Option.some.inj H;go_wp2;go_ret;exact ⟨oE,oL⟩}

/-! ### spec_l15List: function 51 -/
def spec_l15List.l0 : Nat → List (S77) → Int → List (S88) → Int → Int → Option ((List (S77)) × Int)
 | 0,_,_,_,_,_ => none
 | k + 1,x4,x5,x9,x10,x11 => if x11 < x10 then (if 0 ≤ x11 then (if x11 < (x9.length : Int) then (if x4.length < 2513169434916 then ((some (x4 ++ [(⟨(rd_T88 x9 x11).f0.f0,(rd_T88 x9 x11).f0.f1,(rd_T88 x9 x11).f0.f2,(⟨(rd_T88 x9 x11).f0.f3.f0,(rd_T88 x9 x11).f0.f3.f1,(rd_T88 x9 x11).f0.f3.f2⟩ : S75),(rd_T88 x9 x11).f0.f4⟩ : S77)] : List (S77))).bind fun y104 => ((spec_l14Straight.f k ((rd_T88 x9 x11).f0.f0) ((rd_T88 x9 x11).f0.f1) ((rd_T88 x9 x11).f0.f2) ((rd_T88 x9 x11).f0.f3.f0) ((rd_T88 x9 x11).f0.f3.f1) ((rd_T88 x9 x11).f0.f3.f2) ((rd_T88 x9 x11).f0.f4)).bind fun t107 => (if t107 = true then (spec_l15List.l0 k y104 (wrap64 (x5 + 1)) x9 x10 (wrap64 (x11 + 1))) else (spec_l15List.l0 k y104 x5 x9 x10 (wrap64 (x11 + 1)))))) else (none)) else (none)) else (none)) else (some (x4,x5))
def spec_l15List.f (k : Nat) (a0_0 : Int) (a0_1 : Int) (l0_2 : List (S88)) : Option ((List (S77)) × Int) := spec_l15List.l0 k ([] : List (S77)) 0 l0_2 (l0_2.length : Int) 0
theorem spec_l15List.mono_l : ∀ k,(∀ y0 y1 y2 y3 y4,LeO (spec_l15List.l0 k y0 y1 y2 y3 y4) (spec_l15List.l0 (k + 1) y0 y1 y2 y3 y4))
 | 0 => fun _ _ _ _ _ r h => by simp [spec_l15List.l0] at h
 | k + 1 => by
  have ih0 := spec_l15List.mono_l k
  ·
   intro y0 y1 y2 y3 y4
   unfold spec_l15List.l0
   repeat' first
   | (with_reducible exact ih0 _ _ _ _ _)
   | (with_reducible exact spec_l14Straight.mono _ _ _ _ _ _ _ _)
   | (with_reducible exact LeO.refl _)
   | (with_reducible exact LeO.none _)
   | (with_reducible refine LeO.ite ?_ ?_)
   | (with_reducible refine LeO.bind ?_ (fun _ => ?_))
   | exact ih0 _ _ _ _ _
   | exact spec_l14Straight.mono _ _ _ _ _ _ _ _
   | exact LeO.none _
   | refine LeO.ite ?_ ?_
   | refine LeO.bind ?_ (fun _ => ?_)
theorem spec_l15List.mono : ∀ a0 a1 a2 k,LeO (spec_l15List.f k a0 a1 a2) (spec_l15List.f (k + 1) a0 a1 a2) := by
 intro a0 a1 a2 k
 have ih0 := spec_l15List.mono_l k
 unfold spec_l15List.f
 repeat' first
   | (with_reducible exact ih0 _ _ _ _ _)
   | (with_reducible exact spec_l14Straight.mono _ _ _ _ _ _ _ _)
   | (with_reducible exact LeO.refl _)
   | (with_reducible exact LeO.none _)
   | (with_reducible refine LeO.ite ?_ ?_)
   | (with_reducible refine LeO.bind ?_ (fun _ => ?_))
   | exact ih0 _ _ _ _ _
   | exact spec_l14Straight.mono _ _ _ _ _ _ _ _
   | exact LeO.none _
   | refine LeO.ite ?_ ?_
   | refine LeO.bind ?_ (fun _ => ?_)
set_option maxHeartbeats 8000000 in
set_option maxRecDepth 100000 in
theorem spec_l15List.calls (k : Nat) (a0_0 : Int) (a0_1 : Int) (A0_2 : Option Addr) (c0_2 : Nat) (l0_2 : List (S88)) (r1 : List (S77)) (r2 : Int) (w : World) (hr0_2 : Kd.C k88 w A0_2 l0_2.length l0_2) (hc0_2 : l0_2.length ≤ c0_2) (h : spec_l15List.f k a0_0 a0_1 l0_2 = some (r1,r2)) :
  Calls Try.prog 51 #[.agg #[.int .i64 a0_0,.int .i64 a0_1,.slice A0_2 l0_2.length c0_2]] w fun e w' => ∃ v0_ : Value,e = .returned (.tuple #[v0_,.int .i64 r2]) ∧ Kd.R k77 77 w' w.heap.size (fun _ => True) v0_ r1 ∧ Below w.heap.size w w' := by
 have hu41 := Try.underlying41;have hu88 := Try.underlying88;have hu77 := Try.underlying77;have HR0_2 := aS hr0_2;have HC0_2 := aS hc0_2;clear hr0_2 hc0_2;have HB := aS (Below.refl w.heap.size w);have H : (spec_l15List.l0 k ([] : List (S77)) 0 l0_2 (l0_2.length : Int) 0) = some (r1,r2) := h;clear h;have H' := aS H;clear H;go_enter Try.func51,Try.ntmps51;go_wp2_with (first | ((with_reducible refine gate_dst (N := 1) rfl ?_);refine boxE (w := w) oL (cs := #[.int .i64 a0_0,.int .i64 a0_1,.slice A0_2 l0_2.length c0_2]) (t := 41) ?_;clear HB;intro gb101 w2 HB BK101 GW101;have GE101 := GW101;obtain ⟨Z3_0,Z3_1,Z3_2⟩ := cz3 BK101.out;obtain ⟨Y3_0,Y3_1,Y3_2⟩ := fz3 BK101.out));go_loopg [4,5,11] k (fun kq v4 v5 v11 w' => ∃ (x4_1 : List (S77)) (x5_1 : Int) (x11_1 : Int),v5 = .int .i64 x5_1 ∧ v11 = .int .i64 x11_1 ∧ Aside0 (spec_l15List.l0 kq x4_1 x5_1 l0_2 (l0_2.length : Int) x11_1 = some (r1,r2)) ∧ Aside0 (kq ≤ k) ∧ Aside0 (Kd.R k77 77 w' w.heap.size (fun _ => True) v4 x4_1) ∧ Aside0 (w'.heap[gb101]? = some (.cells #[.int .i64 a0_0,.int .i64 a0_1,(.slice A0_2 l0_2.length c0_2)] 41 (0,0))) ∧ Aside0 (Below w.heap.size w w'))
 case atStart => exact ⟨(([] : List (S77))),(0),(0),oE,oE,H',⟨Nat.le_refl _⟩,⟨by first | exact Kd.R_nil _ _ _ _ _ | exact Kd.N_nil _ _ _ _ _ | exact Kd.V_nil _ _ _ _ _ | exact Kd.Q_nil _ _ _ _ _ | exact Kd.S_nil _ _ _ _ _⟩,⟨oB BK101.out⟩,⟨oL⟩⟩
 case round =>
  clear H';(try clear p2);(try clear Z3_0 Z3_1 Z3_2);(try clear Y3_0 Y3_1 Y3_2);obtain ⟨x4_1,x5_1,x11_1,rfl,rfl,HA,HK1,HO_4,BK101,HB⟩ := hrel;cases gk with
  | zero => exact absurd HA.out (by simp [spec_l15List.l0])
  | succ k1 =>
   have H := HA.out;clear HA;simp only [spec_l15List.l0] at H;by_cases c4 : x11_1 < (l0_2.length : Int)
   ·
    rw [if_pos c4] at H;have c4b0 : decide (x11_1 < (l0_2.length : Int)) = true := decide_eq_true c4;clear c4;by_cases c5 : 0 ≤ x11_1
    ·
     rw [if_pos c5] at H;have c5b0 : decide (0 ≤ x11_1) = true := decide_eq_true c5;clear c5;by_cases c6 : x11_1 < (l0_2.length : Int)
     ·
      rw [if_pos c6] at H;have c6b0 : decide (x11_1 < (l0_2.length : Int)) = true := decide_eq_true c6;clear c6;by_cases c7 : x4_1.length < 2513169434916
      ·
       rw [if_pos c7] at H;have LMc7 := aS c7;clear c7;obtain ⟨y104,hy104⟩ : ∃ y_ : List (S77),y_ = (x4_1 ++ [(⟨(rd_T88 l0_2 x11_1).f0.f0,(rd_T88 l0_2 x11_1).f0.f1,(rd_T88 l0_2 x11_1).f0.f2,(⟨(rd_T88 l0_2 x11_1).f0.f3.f0,(rd_T88 l0_2 x11_1).f0.f3.f1,(rd_T88 l0_2 x11_1).f0.f3.f2⟩ : S75),(rd_T88 l0_2 x11_1).f0.f4⟩ : S77)]) := ⟨_,rfl⟩;replace H : ((spec_l14Straight.f k1 ((rd_T88 l0_2 x11_1).f0.f0) ((rd_T88 l0_2 x11_1).f0.f1) ((rd_T88 l0_2 x11_1).f0.f2) ((rd_T88 l0_2 x11_1).f0.f3.f0) ((rd_T88 l0_2 x11_1).f0.f3.f1) ((rd_T88 l0_2 x11_1).f0.f3.f2) ((rd_T88 l0_2 x11_1).f0.f4)).bind fun t107 => (if t107 = true then (spec_l15List.l0 k1 y104 (wrap64 (x5_1 + 1)) l0_2 (l0_2.length : Int) (wrap64 (x11_1 + 1))) else (spec_l15List.l0 k1 y104 x5_1 l0_2 (l0_2.length : Int) (wrap64 (x11_1 + 1))))) = some (r1,r2) := by first | (rw [hy104];with_reducible exact H) | (have H2_ := (Option.bind_some _ _).symm.trans H;rw [hy104];with_reducible exact H2_) | (have H2_ := (Option.bind_some _ _).symm.trans H;with_reducible exact H2_) | with_reducible exact H | (rw [hy104];exact H) | exact H
       have Ny104 := aS hy104;clear hy104;obtain ⟨t107,A80,H⟩ := bE H;have A8 := aS A80;clear A80;by_cases c9 : t107 = true
       ·
        subst c9;replace H := iT H;have H' := aS H;clear H;have p102 : 0 ≤ (x11_1 : Int) := of_decide_eq_true (by first | (with_reducible assumption) | assumption);have q102 : x11_1 < (l0_2.length : Int) := of_decide_eq_true (by first | (with_reducible assumption) | assumption);obtain ⟨ad102,e102,hx102_0,hx102_1,hx102_2,hx102_3,hx102_4,hx102_5,hx102_6,hx102_7,hx102_8⟩ := at_T88 HR0_2.out x11_1 p102 q102;cases e102
        replace hx102_0 := oJ HB hx102_0;replace hx102_1 := oJ HB hx102_1;replace hx102_2 := oJ HB hx102_2;replace hx102_3 := oJ HB hx102_3;replace hx102_4 := oJ HB hx102_4;replace hx102_5 := oJ HB hx102_5;replace hx102_6 := oJ HB hx102_6;replace hx102_7 := oJ HB hx102_7;replace hx102_8 := oJ HB hx102_8;replace p102 := eq_true p102;replace q102 := eq_true q102;go_wp2_with (first | ((with_reducible refine gate_dst (N := 7) rfl ?_);refine box_event ?hg (N := 7) ?hd (cs := #[.int .i64 0,.int .i64 0,.int .i64 0,.int .i64 0,.int .i64 0,.int .i64 0,.int .i64 0,.int .i64 0,.bool false]) (t := 88) ?hr ?_;(case hd => rfl);(case hg => rfl);(case hr => first | (go_simp;done) | (go_simp;rfl));intro gb103 hg w10 hbox hb;have n0_ := aS (Kd.R_below (oR HO_4.out) hb);have n1_ := aS (blk_below (oB BK101.out) hb);have n2_ := aS (below_step oL hb);have n3_ := aS (hbox);have n4_ := aS ((oS hg oL : w.heap.size ≤ gb103));have n5_ := aS ((oS hg oL : w.heap.size ≤ gb103));have n6_ := aS ((oN hg (oB BK101.out) : gb101 ≠ gb103));have n7_ := aS ((oM hg (oB BK101.out) : gb103 ≠ gb101));clear HO_4;clear BK101;clear HB;have HO_4 := n0_;have BK101 := n1_;have HB := n2_;have BK103 := n3_;have GW103 := n4_;have GE103 := n5_;have NB101_103 := n6_;have NB103_101 := n7_;clear n0_ n1_ n2_ n3_ n4_ n5_ n6_ n7_;clear hb hbox hg;have hnb11 := NB103_101.out;have hnc11 := NB101_103.out;obtain ⟨Z12_0,Z12_1,Z12_2,Z12_3,Z12_4,Z12_5,Z12_6,Z12_7,Z12_8⟩ := cz9 BK103.out;obtain ⟨Y12_0,Y12_1,Y12_2,Y12_3,Y12_4,Y12_5,Y12_6,Y12_7,Y12_8⟩ := fz9 BK103.out) | ((with_reducible refine gate_builtin (b := .append) (xs := #[.tmp 15,.tmp 18]) rfl ?_);at_builtin;refine Kd.R_append k77 (w0 := w) w.heap.size rfl (.tmp 15) (.tmp 18) 27 77 (.agg #[(.int .i64 0),(.int .i64 0),(.int .i64 0),(.int .i64 0),(.int .i64 0),(.int .i64 0),(.int .i64 0)]) 56 rfl Try.underlying27 info77 rfl (by decide) (by omega) u4 x4_1 (⟨(rd_T88 l0_2 x11_1).f0.f0,(rd_T88 l0_2 x11_1).f0.f1,(rd_T88 l0_2 x11_1).f0.f2,(⟨(rd_T88 l0_2 x11_1).f0.f3.f0,(rd_T88 l0_2 x11_1).f0.f3.f1,(rd_T88 l0_2 x11_1).f0.f3.f2⟩ : S75),(rd_T88 l0_2 x11_1).f0.f4⟩ : S77) [.int .i64 ((rd_T88 l0_2 x11_1).f0.f0),.int .i64 ((rd_T88 l0_2 x11_1).f0.f1),.int .i64 ((rd_T88 l0_2 x11_1).f0.f2),.int .i64 ((rd_T88 l0_2 x11_1).f0.f3.f0),.int .i64 ((rd_T88 l0_2 x11_1).f0.f3.f1),.int .i64 ((rd_T88 l0_2 x11_1).f0.f3.f2),.int .i64 ((rd_T88 l0_2 x11_1).f0.f4)] (fun _ => True) (fun _ => False) rfl (by first | (go_simp;done) | (go_simp;rfl)) ?aP (fun _ hk => hk.elim) ?aF ?aO ?aB ?aS ?aL ?_;(case aP => exact k77_mkM _ _ _ (⟨(rd_T88 l0_2 x11_1).f0.f0,(rd_T88 l0_2 x11_1).f0.f1,(rd_T88 l0_2 x11_1).f0.f2,(⟨(rd_T88 l0_2 x11_1).f0.f3.f0,(rd_T88 l0_2 x11_1).f0.f3.f1,(rd_T88 l0_2 x11_1).f0.f3.f2⟩ : S75),(rd_T88 l0_2 x11_1).f0.f4⟩ : S77));(case aB => exact oL);(case aF => exact (fun _ _ => trivial));(case aO => exact (by (with_reducible repeat (first | apply Kd.R_alloc | apply Kd.R_drewN | apply Kd.R_drew));exact Kd.R_mono (oFr HO_4.out BK103.out) (fun _ hk => trivial)));(case aS => exact (below_size oL));(case aL => have := LMc7.out;omega);intro v105 w13 ho hb hg hat;rw [← Ny104.out] at ho;have n0_ := aS (blk_grown (g := gb101) (o := .cells #[.int .i64 a0_0,.int .i64 a0_1,.slice (some ad102) l0_2.length c0_2] 41 (0,0)) (oG BK101.out NB101_103.out) hg (Kd.R_ne HO_4.out BK101.out (by decide)));have n1_ := aS (blk_grown (g := gb103) (o := .cells #[.int .i64 ((rd_T88 l0_2 x11_1).f0.f0),.int .i64 ((rd_T88 l0_2 x11_1).f0.f1),.int .i64 ((rd_T88 l0_2 x11_1).f0.f2),.int .i64 ((rd_T88 l0_2 x11_1).f0.f3.f0),.int .i64 ((rd_T88 l0_2 x11_1).f0.f3.f1),.int .i64 ((rd_T88 l0_2 x11_1).f0.f3.f2),.int .i64 ((rd_T88 l0_2 x11_1).f0.f4),.int .i64 ((rd_T88 l0_2 x11_1).f1),.bool ((rd_T88 l0_2 x11_1).f2)] 88 (0,0)) (oP BK103.out) hg (Kd.R_ne HO_4.out BK103.out (by decide)));have n2_ := aS (hb);have n3_ := aS (ho);clear BK101;clear BK103;clear HB;clear HO_4;have BK101 := n0_;have BK103 := n1_;have HB := n2_;have HO106 := n3_;clear n0_ n1_ n2_ n3_;clear ho hb hg hat;obtain ⟨Z14_0,Z14_1,Z14_2,Z14_3,Z14_4,Z14_5,Z14_6,Z14_7,Z14_8⟩ := cz9 BK103.out;obtain ⟨Y14_0,Y14_1,Y14_2,Y14_3,Y14_4,Y14_5,Y14_6,Y14_7,Y14_8⟩ := fz9 BK103.out) | ((with_reducible refine gate_callee (f := 55) rfl ?_);refine goesL_ (some 22) rfl rfl Try.func55 (by kernel_rfl) rfl #[.agg #[.int .i64 ((rd_T88 l0_2 x11_1).f0.f0),.int .i64 ((rd_T88 l0_2 x11_1).f0.f1),.int .i64 ((rd_T88 l0_2 x11_1).f0.f2),.int .i64 ((rd_T88 l0_2 x11_1).f0.f3.f0),.int .i64 ((rd_T88 l0_2 x11_1).f0.f3.f1),.int .i64 ((rd_T88 l0_2 x11_1).f0.f3.f2),.int .i64 ((rd_T88 l0_2 x11_1).f0.f4)]] rfl (by (try simp only [List.map_toArray,List.map_cons,List.map_nil]);first | done | rfl | (simp only [List.length_drop,List.length_take];rfl)) ?_;(with_reducible refine (spec_l14Straight.calls k1 ((rd_T88 l0_2 x11_1).f0.f0) ((rd_T88 l0_2 x11_1).f0.f1) ((rd_T88 l0_2 x11_1).f0.f2) ((rd_T88 l0_2 x11_1).f0.f3.f0) ((rd_T88 l0_2 x11_1).f0.f3.f1) ((rd_T88 l0_2 x11_1).f0.f3.f2) ((rd_T88 l0_2 x11_1).f0.f4) true _ A8.out).mono ?_);rintro e w15 ⟨rfl,hb⟩;refine ⟨_,rfl,?_⟩;have n0_ := aS (Kd.R_below (oR HO106.out) hb);have n1_ := aS (blk_below (oB BK101.out) hb);have n2_ := aS (blk_below (oB BK103.out) hb);have n3_ := aS (below_step oL hb);clear HO106;clear BK101;clear BK103;clear HB;have HO106 := n0_;have BK101 := n1_;have BK103 := n2_;have HB := n3_;clear n0_ n1_ n2_ n3_;(try clear hb);(try clear hb2);(try clear hk);(try clear hi)));go_roundg k1;case measure => have := HK1.out;omega
        case rel => exact ⟨(y104),(wrap64 (x5_1 + 1)),(wrap64 (x11_1 + 1)),oE,oE,H',⟨by have := HK1.out;omega⟩,⟨by (with_reducible repeat (first | apply Kd.R_alloc | apply Kd.R_drewN | apply Kd.R_drew));exact HO106.out⟩,⟨oB BK101.out⟩,⟨oL⟩⟩
       ·
        replace c9 := Bool.eq_false_iff.mpr c9;subst c9;replace H := iF H;have H' := aS H;clear H;have p102 : 0 ≤ (x11_1 : Int) := of_decide_eq_true (by first | (with_reducible assumption) | assumption);have q102 : x11_1 < (l0_2.length : Int) := of_decide_eq_true (by first | (with_reducible assumption) | assumption);obtain ⟨ad102,e102,hx102_0,hx102_1,hx102_2,hx102_3,hx102_4,hx102_5,hx102_6,hx102_7,hx102_8⟩ := at_T88 HR0_2.out x11_1 p102 q102;cases e102
        replace hx102_0 := oJ HB hx102_0;replace hx102_1 := oJ HB hx102_1;replace hx102_2 := oJ HB hx102_2;replace hx102_3 := oJ HB hx102_3;replace hx102_4 := oJ HB hx102_4;replace hx102_5 := oJ HB hx102_5;replace hx102_6 := oJ HB hx102_6;replace hx102_7 := oJ HB hx102_7;replace hx102_8 := oJ HB hx102_8;replace p102 := eq_true p102;replace q102 := eq_true q102;go_wp2_with (first | ((with_reducible refine gate_dst (N := 7) rfl ?_);refine box_event ?hg (N := 7) ?hd (cs := #[.int .i64 0,.int .i64 0,.int .i64 0,.int .i64 0,.int .i64 0,.int .i64 0,.int .i64 0,.int .i64 0,.bool false]) (t := 88) ?hr ?_;(case hd => rfl);(case hg => rfl);(case hr => first | (go_simp;done) | (go_simp;rfl));intro gb103 hg w16 hbox hb;have n0_ := aS (Kd.R_below (oR HO_4.out) hb);have n1_ := aS (blk_below (oB BK101.out) hb);have n2_ := aS (below_step oL hb);have n3_ := aS (hbox);have n4_ := aS ((oS hg oL : w.heap.size ≤ gb103));have n5_ := aS ((oS hg oL : w.heap.size ≤ gb103));have n6_ := aS ((oN hg (oB BK101.out) : gb101 ≠ gb103));have n7_ := aS ((oM hg (oB BK101.out) : gb103 ≠ gb101));clear HO_4;clear BK101;clear HB;have HO_4 := n0_;have BK101 := n1_;have HB := n2_;have BK103 := n3_;have GW103 := n4_;have GE103 := n5_;have NB101_103 := n6_;have NB103_101 := n7_;clear n0_ n1_ n2_ n3_ n4_ n5_ n6_ n7_;clear hb hbox hg;have hnb17 := NB103_101.out;have hnc17 := NB101_103.out;obtain ⟨Z18_0,Z18_1,Z18_2,Z18_3,Z18_4,Z18_5,Z18_6,Z18_7,Z18_8⟩ := cz9 BK103.out;obtain ⟨Y18_0,Y18_1,Y18_2,Y18_3,Y18_4,Y18_5,Y18_6,Y18_7,Y18_8⟩ := fz9 BK103.out) | ((with_reducible refine gate_builtin (b := .append) (xs := #[.tmp 15,.tmp 18]) rfl ?_);at_builtin;refine Kd.R_append k77 (w0 := w) w.heap.size rfl (.tmp 15) (.tmp 18) 27 77 (.agg #[(.int .i64 0),(.int .i64 0),(.int .i64 0),(.int .i64 0),(.int .i64 0),(.int .i64 0),(.int .i64 0)]) 56 rfl Try.underlying27 info77 rfl (by decide) (by omega) u4 x4_1 (⟨(rd_T88 l0_2 x11_1).f0.f0,(rd_T88 l0_2 x11_1).f0.f1,(rd_T88 l0_2 x11_1).f0.f2,(⟨(rd_T88 l0_2 x11_1).f0.f3.f0,(rd_T88 l0_2 x11_1).f0.f3.f1,(rd_T88 l0_2 x11_1).f0.f3.f2⟩ : S75),(rd_T88 l0_2 x11_1).f0.f4⟩ : S77) [.int .i64 ((rd_T88 l0_2 x11_1).f0.f0),.int .i64 ((rd_T88 l0_2 x11_1).f0.f1),.int .i64 ((rd_T88 l0_2 x11_1).f0.f2),.int .i64 ((rd_T88 l0_2 x11_1).f0.f3.f0),.int .i64 ((rd_T88 l0_2 x11_1).f0.f3.f1),.int .i64 ((rd_T88 l0_2 x11_1).f0.f3.f2),.int .i64 ((rd_T88 l0_2 x11_1).f0.f4)] (fun _ => True) (fun _ => False) rfl (by first | (go_simp;done) | (go_simp;rfl)) ?aP (fun _ hk => hk.elim) ?aF ?aO ?aB ?aS ?aL ?_;(case aP => exact k77_mkM _ _ _ (⟨(rd_T88 l0_2 x11_1).f0.f0,(rd_T88 l0_2 x11_1).f0.f1,(rd_T88 l0_2 x11_1).f0.f2,(⟨(rd_T88 l0_2 x11_1).f0.f3.f0,(rd_T88 l0_2 x11_1).f0.f3.f1,(rd_T88 l0_2 x11_1).f0.f3.f2⟩ : S75),(rd_T88 l0_2 x11_1).f0.f4⟩ : S77));(case aB => exact oL);(case aF => exact (fun _ _ => trivial));(case aO => exact (by (with_reducible repeat (first | apply Kd.R_alloc | apply Kd.R_drewN | apply Kd.R_drew));exact Kd.R_mono (oFr HO_4.out BK103.out) (fun _ hk => trivial)));(case aS => exact (below_size oL));(case aL => have := LMc7.out;omega);intro v105 w19 ho hb hg hat;rw [← Ny104.out] at ho;have n0_ := aS (blk_grown (g := gb101) (o := .cells #[.int .i64 a0_0,.int .i64 a0_1,.slice (some ad102) l0_2.length c0_2] 41 (0,0)) (oG BK101.out NB101_103.out) hg (Kd.R_ne HO_4.out BK101.out (by decide)));have n1_ := aS (blk_grown (g := gb103) (o := .cells #[.int .i64 ((rd_T88 l0_2 x11_1).f0.f0),.int .i64 ((rd_T88 l0_2 x11_1).f0.f1),.int .i64 ((rd_T88 l0_2 x11_1).f0.f2),.int .i64 ((rd_T88 l0_2 x11_1).f0.f3.f0),.int .i64 ((rd_T88 l0_2 x11_1).f0.f3.f1),.int .i64 ((rd_T88 l0_2 x11_1).f0.f3.f2),.int .i64 ((rd_T88 l0_2 x11_1).f0.f4),.int .i64 ((rd_T88 l0_2 x11_1).f1),.bool ((rd_T88 l0_2 x11_1).f2)] 88 (0,0)) (oP BK103.out) hg (Kd.R_ne HO_4.out BK103.out (by decide)));have n2_ := aS (hb);have n3_ := aS (ho);clear BK101;clear BK103;clear HB;clear HO_4;have BK101 := n0_;have BK103 := n1_;have HB := n2_;have HO106 := n3_;clear n0_ n1_ n2_ n3_;clear ho hb hg hat;obtain ⟨Z20_0,Z20_1,Z20_2,Z20_3,Z20_4,Z20_5,Z20_6,Z20_7,Z20_8⟩ := cz9 BK103.out;obtain ⟨Y20_0,Y20_1,Y20_2,Y20_3,Y20_4,Y20_5,Y20_6,Y20_7,Y20_8⟩ := fz9 BK103.out) | ((with_reducible refine gate_callee (f := 55) rfl ?_);refine goesL_ (some 22) rfl rfl Try.func55 (by kernel_rfl) rfl #[.agg #[.int .i64 ((rd_T88 l0_2 x11_1).f0.f0),.int .i64 ((rd_T88 l0_2 x11_1).f0.f1),.int .i64 ((rd_T88 l0_2 x11_1).f0.f2),.int .i64 ((rd_T88 l0_2 x11_1).f0.f3.f0),.int .i64 ((rd_T88 l0_2 x11_1).f0.f3.f1),.int .i64 ((rd_T88 l0_2 x11_1).f0.f3.f2),.int .i64 ((rd_T88 l0_2 x11_1).f0.f4)]] rfl (by (try simp only [List.map_toArray,List.map_cons,List.map_nil]);first | done | rfl | (simp only [List.length_drop,List.length_take];rfl)) ?_;(with_reducible refine (spec_l14Straight.calls k1 ((rd_T88 l0_2 x11_1).f0.f0) ((rd_T88 l0_2 x11_1).f0.f1) ((rd_T88 l0_2 x11_1).f0.f2) ((rd_T88 l0_2 x11_1).f0.f3.f0) ((rd_T88 l0_2 x11_1).f0.f3.f1) ((rd_T88 l0_2 x11_1).f0.f3.f2) ((rd_T88 l0_2 x11_1).f0.f4) false _ A8.out).mono ?_);rintro e w21 ⟨rfl,hb⟩;refine ⟨_,rfl,?_⟩;have n0_ := aS (Kd.R_below (oR HO106.out) hb);have n1_ := aS (blk_below (oB BK101.out) hb);have n2_ := aS (blk_below (oB BK103.out) hb);have n3_ := aS (below_step oL hb);clear HO106;clear BK101;clear BK103;clear HB;have HO106 := n0_;have BK101 := n1_;have BK103 := n2_;have HB := n3_;clear n0_ n1_ n2_ n3_;(try clear hb);(try clear hb2);(try clear hk);(try clear hi)));go_roundg k1;case measure => have := HK1.out;omega
        case rel => exact ⟨(y104),(x5_1),(wrap64 (x11_1 + 1)),oE,oE,H',⟨by have := HK1.out;omega⟩,⟨by (with_reducible repeat (first | apply Kd.R_alloc | apply Kd.R_drewN | apply Kd.R_drew));exact HO106.out⟩,⟨oB BK101.out⟩,⟨oL⟩⟩
      · rw [if_neg c7] at H;exact absurd H (by simp)
     · rw [if_neg c6] at H;exact absurd H (by simp)
    · rw [if_neg c5] at H;exact absurd H (by simp)
   · rw [if_neg c4] at H;have c4b0 : decide (x11_1 < (l0_2.length : Int)) = false := decide_eq_false c4;clear c4;simp only [Option.some.injEq,Prod.mk.injEq] at H;obtain ⟨rfl,rfl⟩ := H;go_wp2;go_ret2;exact ⟨_,oE,by (with_reducible repeat (first | apply Kd.R_alloc | apply Kd.R_drewN | apply Kd.R_drew));exact HO_4.out,oL⟩

/-! ### spec_l1In: function 52 -/
def spec_l1In.f (a0 : Int) (a1 : Int) (a2 : Int) : Option (Bool) := if a0 ≥ a1 then (some (decide (a0 ≤ a2))) else (some false)
set_option maxHeartbeats 8000000 in
set_option maxRecDepth 100000 in
theorem spec_l1In.calls (a0 : Int) (a1 : Int) (a2 : Int) (r : Bool) (w : World) (h : spec_l1In.f a0 a1 a2 = some r) :
  Calls Try.prog 52 #[.int .i64 a0,.int .i64 a1,.int .i64 a2] w fun e w' => e = .returned (.bool r) ∧ Drawn0 w w' := by
 have H : (if a0 ≥ a1 then (some (decide (a0 ≤ a2))) else (some false)) = some r := h;clear h;by_cases c4 : a0 ≥ a1;{rw [if_pos c4] at H;have c4b0 : decide (a1 ≤ a0) = true := decide_eq_true c4;clear c4;obtain rfl := Option.some.inj H;go_enter Try.func52,Try.ntmps52;go_wp2;go_ret;exact ⟨by first | rfl | (simp;done) | (simp [*];done),by repeat (first | exact Drawn0.refl _ | apply Drawn0.step)⟩};{rw [if_neg c4] at H;have c4b0 : decide (a1 ≤ a0) = false := decide_eq_false c4;clear c4;obtain rfl := Option.some.inj H;go_enter Try.func52,Try.ntmps52;go_wp2;go_ret;exact ⟨by first | rfl | (simp;done) | (simp [*];done),by repeat (first | exact Drawn0.refl _ | apply Drawn0.step)⟩}

/-! ### spec_l1Size: function 66 -/
def spec_l1Size.f (a0 : Int) : Option (Bool) := if a0 = 1 then (some true) else (some (a0 == 2))
set_option maxHeartbeats 8000000 in
set_option maxRecDepth 100000 in
theorem spec_l1Size.calls (a0 : Int) (r : Bool) (w : World) (h : spec_l1Size.f a0 = some r) :
  Calls Try.prog 66 #[.int .i64 a0] w fun e w' => e = .returned (.bool r) ∧ Drawn0 w w' := by
 have H : (if a0 = 1 then (some true) else (some (a0 == 2))) = some r := h;clear h;by_cases c2 : a0 = 1;{rw [if_pos c2] at H;obtain ⟨c2b0,c2b1⟩ := eT c2;clear c2;obtain rfl := Option.some.inj H;go_enter Try.func66,Try.ntmps66;go_wp2;go_ret;exact ⟨by first | rfl | (simp;done) | (simp [*];done),by repeat (first | exact Drawn0.refl _ | apply Drawn0.step)⟩};{rw [if_neg c2] at H;obtain ⟨c2b0,c2b1⟩ := eF c2;obtain rfl := Option.some.inj H;go_enter Try.func66,Try.ntmps66;go_wp2;go_ret;exact ⟨by first | rfl | (simp;done) | (simp [*];done),by repeat (first | exact Drawn0.refl _ | apply Drawn0.step)⟩}

/-! ### spec_l6Ext: function 106 -/
def spec_l6Ext.f (a0 : Int) : Option (Bool) := some (decide (a0 ≥ 5))
set_option maxHeartbeats 8000000 in
set_option maxRecDepth 100000 in
theorem spec_l6Ext.calls (a0 : Int) (r : Bool) (w : World) (h : spec_l6Ext.f a0 = some r) :
  Calls Try.prog 106 #[.int .i64 a0] w fun e w' => e = .returned (.bool r) ∧ Drawn0 w w' := by
 have H : (some (decide (a0 ≥ 5))) = some r := h;clear h;obtain rfl := Option.some.inj H;go_enter Try.func106,Try.ntmps106;go_wp2;go_ret;exact ⟨by first | rfl | (simp;done) | (simp [*];done),by repeat (first | exact Drawn0.refl _ | apply Drawn0.step)⟩

/-! ### spec_l6Word: function 126 -/
def spec_l6Word.f (a0 : Int) : Option (Bool) := (spec_l1In.f a0 0 65535).bind fun t101 => (some t101)
set_option maxHeartbeats 8000000 in
set_option maxRecDepth 100000 in
theorem spec_l6Word.calls (a0 : Int) (r : Bool) (w : World) (h : spec_l6Word.f a0 = some r) :
  Calls Try.prog 126 #[.int .i64 a0] w fun e w' => e = .returned (.bool r) ∧ Drawn0 w w' := by
 have H : ((spec_l1In.f a0 0 65535).bind fun t101 => (some t101)) = some r := h;clear h;obtain ⟨t101,A20,H⟩ := bE H;have A2 := aS A20;clear A20;obtain rfl := Option.some.inj H;go_enter Try.func126,Try.ntmps126;go_wp2_with (first | ((with_reducible refine gate_callee (f := 52) rfl ?_);refine goesQ (some 4) Try.func52 #[.int .i64 a0,.int .i64 0,.int .i64 65535] (spec_l1In.calls a0 0 65535 t101 _ A2.out) fun nd => ?_));go_ret;exact ⟨by first | rfl | (simp;done) | (simp [*];done),by repeat (first | exact Drawn0.refl _ | apply Drawn0.step)⟩

end Go.Proofs.Ytjnifnhpnccpcaa.G
