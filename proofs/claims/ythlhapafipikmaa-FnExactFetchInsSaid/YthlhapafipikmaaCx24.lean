-- Made by this session's program gprint.py out of the translation. Not trusted: Lean checks it.
import Derived.Test.YthlhapafipikmaaCx0
import Derived.Test.YthlhapafipikmaaCx1
import Derived.Test.YthlhapafipikmaaCx18
namespace Go.Proofs.Ythlhapafipikmaa.C
open Go.RowKit Go.Proofs.YthlhapafipikmaaW.PrintWords Go.Proofs.YthlhapafipikmaaW.PrintLast Go.Proofs.YthlhapafipikmaaW.PrintMore
attribute [local go_sem] max2_int min2_int max_two min_two max_three min_three max_four min_four   -- for this text's walks alone
set_option linter.unusedVariables false
set_option linter.unusedSimpArgs false

attribute [local go_sem high] eqA54
theorem foldL_impl {P : Program} {ops : Array Oper} {Q : Exit → Act → World → Prop} {rest : List Oper} {a : Act} {W : World} (Pr : World → Prop) (hp : Pr W) (h : ∀ W_,Pr W_ → wpList P ops Q rest a W_) : wpList P ops Q rest a W := h W hp
/-! ### impl_vectorOf: function 83 -/
def impl_vectorOf.f (a0 : Int) : Option (Int) := if a0 = 2 then (some 3) else (some 2)
set_option maxHeartbeats 8000000 in
set_option maxRecDepth 100000 in
theorem impl_vectorOf.calls (a0 : Int) (r : Int) (w : World) (h : impl_vectorOf.f a0 = some r) :
  Calls Try.prog 83 #[.int .i64 a0] w fun e w' => e = .returned (.int .i64 r) ∧ Drawn0 w w' := by
 unfold impl_vectorOf.f at h;have H := h;clear h;by_cases c2 : a0 = 2;{rw [if_pos c2] at H;obtain ⟨c2b0,c2b1⟩ := eT c2;clear c2;obtain rfl := Option.some.inj H;go_enter Try.func83,Try.ntmps83;go_wp2;go_ret;exact ⟨by first | rfl | (simp;done) | (simp [*];done),by repeat (first | exact Drawn0.refl _ | apply Drawn0.step)⟩};{rw [if_neg c2] at H;obtain ⟨c2b0,c2b1⟩ := eF c2;obtain rfl := Option.some.inj H;go_enter Try.func83,Try.ntmps83;go_wp2;go_ret;exact ⟨by first | rfl | (simp;done) | (simp [*];done),by repeat (first | exact Drawn0.refl _ | apply Drawn0.step)⟩}

/-! ### impl_flag: function 111 -/
def impl_flag.f (a0 : Bool) (a1 : Int) : Option (Int) := if a0 = true then (some a1) else (some 0)
set_option maxHeartbeats 8000000 in
set_option maxRecDepth 100000 in
theorem impl_flag.calls (a0 : Bool) (a1 : Int) (r : Int) (w : World) (h : impl_flag.f a0 a1 = some r) :
  Calls Try.prog 111 #[.bool a0,.int .i64 a1] w fun e w' => e = .returned (.int .i64 r) ∧ Drawn0 w w' := by
 unfold impl_flag.f at h;have H := h;clear h;by_cases c3 : a0 = true;{subst c3;replace H := iT H;obtain rfl := Option.some.inj H;go_enter Try.func111,Try.ntmps111;go_wp2;go_ret;exact ⟨by first | rfl | (simp;done) | (simp [*];done),by repeat (first | exact Drawn0.refl _ | apply Drawn0.step)⟩};{replace c3 := Bool.eq_false_iff.mpr c3;subst c3;replace H := iF H;obtain rfl := Option.some.inj H;go_enter Try.func111,Try.ntmps111;go_wp2;go_ret;exact ⟨by first | rfl | (simp;done) | (simp [*];done),by repeat (first | exact Drawn0.refl _ | apply Drawn0.step)⟩}

/-! ### impl_needsExt: function 119 -/
def impl_needsExt.f (a0 : Int) : Option (Bool) := if a0 = 5 then (some true) else (if a0 = 6 then (some true) else (some (a0 == 7)))
set_option maxHeartbeats 8000000 in
set_option maxRecDepth 100000 in
theorem impl_needsExt.calls (a0 : Int) (r : Bool) (w : World) (h : impl_needsExt.f a0 = some r) :
  Calls Try.prog 119 #[.int .i64 a0] w fun e w' => e = .returned (.bool r) ∧ Drawn0 w w' := by
 unfold impl_needsExt.f at h;have H := h;clear h;by_cases c2 : a0 = 5;{rw [if_pos c2] at H;obtain ⟨c2b0,c2b1⟩ := eT c2;clear c2;obtain rfl := Option.some.inj H;go_enter Try.func119,Try.ntmps119;go_wp2;go_ret;exact ⟨by first | rfl | (simp;done) | (simp [*];done),by repeat (first | exact Drawn0.refl _ | apply Drawn0.step)⟩}
 ·
  rw [if_neg c2] at H;obtain ⟨c2b0,c2b1⟩ := eF c2;by_cases c3 : a0 = 6;{rw [if_pos c3] at H;obtain ⟨c3b0,c3b1⟩ := eT c3;clear c3;obtain rfl := Option.some.inj H;go_enter Try.func119,Try.ntmps119;go_wp2;go_ret;exact ⟨by first | rfl | (simp;done) | (simp [*];done),by repeat (first | exact Drawn0.refl _ | apply Drawn0.step)⟩};{rw [if_neg c3] at H;obtain ⟨c3b0,c3b1⟩ := eF c3;obtain rfl := Option.some.inj H;go_enter Try.func119,Try.ntmps119;go_wp2;go_ret;exact ⟨by first | rfl | (simp;done) | (simp [*];done),by repeat (first | exact Drawn0.refl _ | apply Drawn0.step)⟩}

/-! ### impl_longOf: function 84 -/
def impl_longOf.f (a0 : Int) : Option (Int) := (impl_needsExt.f (Go.bits .and .i64 (a0 / 32) 7)).bind fun t101 => ((impl_flag.f t101 1).bind fun t102 => (some (wrap64 (1 + t102))))
set_option maxHeartbeats 8000000 in
set_option maxRecDepth 100000 in
theorem impl_longOf.calls (a0 : Int) (r : Int) (w : World) (h : impl_longOf.f a0 = some r) :
  Calls Try.prog 84 #[.int .i64 a0] w fun e w' => e = .returned (.int .i64 r) ∧ Drawn0 w w' := by
 unfold impl_longOf.f at h;have H := h;clear h;obtain ⟨t101,A2,H⟩ := bA_ H;obtain ⟨t102,A3,H⟩ := bA_ H;obtain rfl := Option.some.inj H;go_enter Try.func84,Try.ntmps84;go_wp2_with (first | ((with_reducible refine gate_callee (f := 119) rfl ?_);refine goesQ (some 6) Try.func119 #[.int .i64 (Go.bits .and .i64 (a0 / 32) 7)] (impl_needsExt.calls (Go.bits .and .i64 (a0 / 32) 7) t101 _ A2.out) fun nd => ?_) | ((with_reducible refine gate_callee (f := 111) rfl ?_);refine goesQ (some 7) Try.func111 #[.bool t101,.int .i64 1] (impl_flag.calls t101 1 t102 _ A3.out) fun nd => ?_));go_ret;exact ⟨by first | rfl | (simp;done) | (simp [*];done),by repeat (first | exact Drawn0.refl _ | apply Drawn0.step)⟩

/-! ### impl_decoded: function 85 -/
def impl_decoded.f (a0 : Int) (a1 : Int) : Option (Int × Int × Int × Int × Int × Int × Int) := (impl_longOf.f a0).bind fun t103 => (if t103 = 2 then (some (a0 / 2048,wrap64 ((Go.bits .and .i64 (a0 / 1024) 1) + 1),Go.bits .and .i64 (a0 / 256) 3,Go.bits .and .i64 (a0 / 32) 7,Go.bits .and .i64 (a0 / 8) 3,a1,Go.bits .and .i64 a0 7)) else (some (a0 / 2048,wrap64 ((Go.bits .and .i64 (a0 / 1024) 1) + 1),Go.bits .and .i64 (a0 / 256) 3,Go.bits .and .i64 (a0 / 32) 7,Go.bits .and .i64 (a0 / 8) 3,0,Go.bits .and .i64 a0 7)))
set_option maxHeartbeats 8000000 in
set_option maxRecDepth 100000 in
theorem impl_decoded.calls (a0 : Int) (a1 : Int) (r1 : Int) (r2 : Int) (r3 : Int) (r4 : Int) (r5 : Int) (r6 : Int) (r7 : Int) (w : World) (h : impl_decoded.f a0 a1 = some (r1,r2,r3,r4,r5,r6,r7)) :
  Calls Try.prog 85 #[.int .i64 a0,.int .i64 a1] w fun e w' => e = .returned (.agg #[.int .i64 r1,.int .i64 r2,.int .i64 r3,.int .i64 r4,.int .i64 r5,.int .i64 r6,.int .i64 r7]) ∧ Below w.heap.size w w' := by
 have hu56 := Try.underlying56;have hu54 := Try.underlying54;have HB := aS (Below.refl w.heap.size w);unfold impl_decoded.f at h;have H := h;clear h;obtain ⟨t103,A3,H⟩ := bA_ H;by_cases c4 : t103 = 2
 ·
  rw [if_pos c4] at H;obtain ⟨c4b0,c4b1⟩ := eT c4;clear c4;simp only [Option.some.injEq,Prod.mk.injEq] at H;obtain ⟨rfl,rfl,rfl,rfl,rfl,rfl,rfl⟩ := H;go_enter Try.func85,Try.ntmps85;go_wp2_with (first | ((with_reducible refine gD 4 rfl ?_);refine bX (w:=w) #[.int .i64 0,.int .i64 0,.int .i64 0,.int .i64 0,.int .i64 0,.int .i64 0,.int .i64 0] 56 ?_;clear HB;intro gb101 w5 HB BK101 GW101) | ((with_reducible refine gD 5 rfl ?_);refine bY #[.int .i64 0,.int .i64 0,.int .i64 0,.int .i64 0,.int .i64 0,.int .i64 0,.int .i64 0] 56 ?_;intro gb102 hg w6 hbox hb;refine mk6 (xB BK101 hb) (xL hb) (hbox) (xG hg HB) (xN hg BK101) (xM hg BK101) ?_;clear BK101 HB;intro BK101 HB BK102 GW102 NB101_102 NB102_101;clear hb hbox hg;have hnb7 := NB102_101.out;have hnc7 := NB101_102.out;refine zz7 BK102.out ?_;intros) | ((with_reducible refine gate_callee (f := 84) rfl ?_);refine goesQ (some 27) Try.func84 #[.int .i64 a0] (impl_longOf.calls a0 t103 _ A3.out) fun nd => ?_;refine foldL_impl (fun W_ => W_.heap[gb102]? = some (.cells #[.int .i64 (a0 / 2048),.int .i64 (wrap64 ((Go.bits .and .i64 (a0 / 1024) 1) + 1)),.int .i64 (Go.bits .and .i64 (a0 / 256) 3),.int .i64 (Go.bits .and .i64 (a0 / 32) 7),.int .i64 (Go.bits .and .i64 (a0 / 8) 3),.int .i64 0,.int .i64 (Go.bits .and .i64 a0 7)] 56 (0,0)) ∧ W_.heap[gb101]? = some (.cells #[.int .i64 0,.int .i64 0,.int .i64 0,.int .i64 0,.int .i64 0,.int .i64 0,.int .i64 0] 56 (0,0)) ∧ Below w.heap.size w W_) ⟨oP BK102.out,oG BK101.out NB101_102.out,oL⟩ ?_;intro W_ ⟨p1,p3,p2⟩;replace BK102 := aS p1;replace BK101 := aS p3;replace HB := aS p2;clear p1 p2 p3;refine zz7 BK101.out ?_;intros;obtain ⟨hcy_0,hcy_1,hcy_2,hcy_3,hcy_4,hcy_5,hcy_6⟩ := cz7 BK102.out;obtain ⟨hfy_0,hfy_1,hfy_2,hfy_3,hfy_4,hfy_5,hfy_6⟩ := fz7 BK102.out));refine bodyPost_ret (results_cell_row rfl _ _ gb101 56 #[.int .i64 (a0 / 2048),.int .i64 (wrap64 ((Go.bits .and .i64 (a0 / 1024) 1) + 1)),.int .i64 (Go.bits .and .i64 (a0 / 256) 3),.int .i64 (Go.bits .and .i64 (a0 / 32) 7),.int .i64 (Go.bits .and .i64 (a0 / 8) 3),.int .i64 a1,.int .i64 (Go.bits .and .i64 a0 7)] (0,0) _ rfl (oP BK101.out) Try.underlying56 rfl (by kernel_rfl)) rfl ?_;exact ⟨oE,oL⟩
 ·
  rw [if_neg c4] at H;obtain ⟨c4b0,c4b1⟩ := eF c4;simp only [Option.some.injEq,Prod.mk.injEq] at H;obtain ⟨rfl,rfl,rfl,rfl,rfl,rfl,rfl⟩ := H;go_enter Try.func85,Try.ntmps85;go_wp2_with (first | ((with_reducible refine gD 4 rfl ?_);refine bX (w:=w) #[.int .i64 0,.int .i64 0,.int .i64 0,.int .i64 0,.int .i64 0,.int .i64 0,.int .i64 0] 56 ?_;clear HB;intro gb101 w10 HB BK101 GW101) | ((with_reducible refine gD 5 rfl ?_);refine bY #[.int .i64 0,.int .i64 0,.int .i64 0,.int .i64 0,.int .i64 0,.int .i64 0,.int .i64 0] 56 ?_;intro gb102 hg w11 hbox hb;refine mk6 (xB BK101 hb) (xL hb) (hbox) (xG hg HB) (xN hg BK101) (xM hg BK101) ?_;clear BK101 HB;intro BK101 HB BK102 GW102 NB101_102 NB102_101;clear hb hbox hg;have hnb12 := NB102_101.out;have hnc12 := NB101_102.out;refine zz7 BK102.out ?_;intros) | ((with_reducible refine gate_callee (f := 84) rfl ?_);refine goesQ (some 27) Try.func84 #[.int .i64 a0] (impl_longOf.calls a0 t103 _ A3.out) fun nd => ?_;refine foldL_impl (fun W_ => W_.heap[gb102]? = some (.cells #[.int .i64 (a0 / 2048),.int .i64 (wrap64 ((Go.bits .and .i64 (a0 / 1024) 1) + 1)),.int .i64 (Go.bits .and .i64 (a0 / 256) 3),.int .i64 (Go.bits .and .i64 (a0 / 32) 7),.int .i64 (Go.bits .and .i64 (a0 / 8) 3),.int .i64 0,.int .i64 (Go.bits .and .i64 a0 7)] 56 (0,0)) ∧ W_.heap[gb101]? = some (.cells #[.int .i64 0,.int .i64 0,.int .i64 0,.int .i64 0,.int .i64 0,.int .i64 0,.int .i64 0] 56 (0,0)) ∧ Below w.heap.size w W_) ⟨oP BK102.out,oG BK101.out NB101_102.out,oL⟩ ?_;intro W_ ⟨p1,p3,p2⟩;replace BK102 := aS p1;replace BK101 := aS p3;replace HB := aS p2;clear p1 p2 p3;refine zz7 BK101.out ?_;intros;obtain ⟨hcy_0,hcy_1,hcy_2,hcy_3,hcy_4,hcy_5,hcy_6⟩ := cz7 BK102.out;obtain ⟨hfy_0,hfy_1,hfy_2,hfy_3,hfy_4,hfy_5,hfy_6⟩ := fz7 BK102.out));refine bodyPost_ret (results_cell_row rfl _ _ gb101 56 #[.int .i64 (a0 / 2048),.int .i64 (wrap64 ((Go.bits .and .i64 (a0 / 1024) 1) + 1)),.int .i64 (Go.bits .and .i64 (a0 / 256) 3),.int .i64 (Go.bits .and .i64 (a0 / 32) 7),.int .i64 (Go.bits .and .i64 (a0 / 8) 3),.int .i64 0,.int .i64 (Go.bits .and .i64 a0 7)] (0,0) _ rfl (oP BK101.out) Try.underlying56 rfl (by kernel_rfl)) rfl ?_;exact ⟨oE,oL⟩

/-! ### impl_GoodOperand: function 121 -/
def impl_GoodOperand.f (a0_0 : Int) (a0_1 : Int) (a0_2 : Int) : Option (Bool) := (impl_within.f a0_0 0 7).bind fun t102 => (if t102 = true then ((impl_isWord.f a0_2).bind fun t103 => (if t103 = true then ((impl_needsExt.f a0_0).bind fun t104 => (if t104 = true then ((impl_within.f a0_1 0 3).bind fun t105 => (if t105 = true then (if a0_1 = 0 then (some true) else (some (decide (a0_0 < 6)))) else (some false))) else (if a0_2 = 0 then ((impl_within.f a0_1 0 3).bind fun t106 => (if t106 = true then (if a0_1 = 0 then (some true) else (some (decide (a0_0 < 6)))) else (some false))) else (some false)))) else (some false))) else (some false))
set_option maxHeartbeats 8000000 in
set_option maxRecDepth 100000 in
theorem impl_GoodOperand.calls (a0_0 : Int) (a0_1 : Int) (a0_2 : Int) (r : Bool) (w : World) (h : impl_GoodOperand.f a0_0 a0_1 a0_2 = some r) :
  Calls Try.prog 121 #[.agg #[.int .i64 a0_0,.int .i64 a0_1,.int .i64 a0_2]] w fun e w' => e = .returned (.bool r) ∧ Below w.heap.size w w' := by
 have hu54 := Try.underlying54;have HB := aS (Below.refl w.heap.size w);unfold impl_GoodOperand.f at h;have H := h;clear h;obtain ⟨t102,A2,H⟩ := bA_ H;by_cases c3 : t102 = true
 ·
  subst c3;replace H := iT H;obtain ⟨t103,A4,H⟩ := bA_ H;by_cases c5 : t103 = true
  ·
   subst c5;replace H := iT H;obtain ⟨t104,A6,H⟩ := bA_ H;by_cases c7 : t104 = true
   ·
    subst c7;replace H := iT H;obtain ⟨t105,A8,H⟩ := bA_ H;by_cases c9 : t105 = true
    ·
     subst c9;replace H := iT H;by_cases c10 : a0_1 = 0
     ·
      rw [if_pos c10] at H;obtain ⟨c10b0,c10b1⟩ := eT c10;clear c10;obtain rfl := Option.some.inj H;go_enter Try.func121,Try.ntmps121;go_wp2_with (first | ((with_reducible refine gD 1 rfl ?_);refine bX (w:=w) #[.int .i64 a0_0,.int .i64 a0_1,.int .i64 a0_2] 54 ?_;clear HB;intro gb101 w11 HB BK101 GW101;refine zz3 BK101.out ?_;intros) | ((with_reducible refine gate_callee (f := 72) rfl ?_);refine goesQ (some 5) Try.func72 #[.int .i64 a0_0,.int .i64 0,.int .i64 7] (impl_within.calls a0_0 0 7 true _ A2.out) fun nd => ?_) | (go_at_call 43;(with_reducible refine (impl_isWord.calls a0_2 true _ A4.out).mono ?_);rintro e w' ⟨rfl,⟨nd,rfl⟩⟩) | (go_at_call 119;(with_reducible refine (impl_needsExt.calls a0_0 true _ A6.out).mono ?_);rintro e w' ⟨rfl,⟨nd,rfl⟩⟩) | ((with_reducible refine gate_callee (f := 72) rfl ?_);refine goesQ (some 26) Try.func72 #[.int .i64 a0_1,.int .i64 0,.int .i64 3] (impl_within.calls a0_1 0 3 true _ A8.out) fun nd => ?_));go_ret;exact ⟨oE,oL⟩
     ·
      rw [if_neg c10] at H;obtain ⟨c10b0,c10b1⟩ := eF c10;obtain rfl := Option.some.inj H;go_enter Try.func121,Try.ntmps121;go_wp2_with (first | ((with_reducible refine gD 1 rfl ?_);refine bX (w:=w) #[.int .i64 a0_0,.int .i64 a0_1,.int .i64 a0_2] 54 ?_;clear HB;intro gb101 w13 HB BK101 GW101;refine zz3 BK101.out ?_;intros) | ((with_reducible refine gate_callee (f := 72) rfl ?_);refine goesQ (some 5) Try.func72 #[.int .i64 a0_0,.int .i64 0,.int .i64 7] (impl_within.calls a0_0 0 7 true _ A2.out) fun nd => ?_) | (go_at_call 43;(with_reducible refine (impl_isWord.calls a0_2 true _ A4.out).mono ?_);rintro e w' ⟨rfl,⟨nd,rfl⟩⟩) | (go_at_call 119;(with_reducible refine (impl_needsExt.calls a0_0 true _ A6.out).mono ?_);rintro e w' ⟨rfl,⟨nd,rfl⟩⟩) | ((with_reducible refine gate_callee (f := 72) rfl ?_);refine goesQ (some 26) Try.func72 #[.int .i64 a0_1,.int .i64 0,.int .i64 3] (impl_within.calls a0_1 0 3 true _ A8.out) fun nd => ?_));go_ret;exact ⟨oE,oL⟩
    ·
     replace c9 := Bool.eq_false_iff.mpr c9;subst c9;replace H := iF H;obtain rfl := Option.some.inj H;go_enter Try.func121,Try.ntmps121;go_wp2_with (first | ((with_reducible refine gD 1 rfl ?_);refine bX (w:=w) #[.int .i64 a0_0,.int .i64 a0_1,.int .i64 a0_2] 54 ?_;clear HB;intro gb101 w15 HB BK101 GW101;refine zz3 BK101.out ?_;intros) | ((with_reducible refine gate_callee (f := 72) rfl ?_);refine goesQ (some 5) Try.func72 #[.int .i64 a0_0,.int .i64 0,.int .i64 7] (impl_within.calls a0_0 0 7 true _ A2.out) fun nd => ?_) | (go_at_call 43;(with_reducible refine (impl_isWord.calls a0_2 true _ A4.out).mono ?_);rintro e w' ⟨rfl,⟨nd,rfl⟩⟩) | (go_at_call 119;(with_reducible refine (impl_needsExt.calls a0_0 true _ A6.out).mono ?_);rintro e w' ⟨rfl,⟨nd,rfl⟩⟩) | ((with_reducible refine gate_callee (f := 72) rfl ?_);refine goesQ (some 26) Try.func72 #[.int .i64 a0_1,.int .i64 0,.int .i64 3] (impl_within.calls a0_1 0 3 false _ A8.out) fun nd => ?_));go_ret;exact ⟨oE,oL⟩
   ·
    replace c7 := Bool.eq_false_iff.mpr c7;subst c7;replace H := iF H;by_cases c17 : a0_2 = 0
    ·
     rw [if_pos c17] at H;obtain ⟨c17b0,c17b1⟩ := eT c17;clear c17;obtain ⟨t106,A18,H⟩ := bA_ H;by_cases c19 : t106 = true
     ·
      subst c19;replace H := iT H;by_cases c20 : a0_1 = 0
      ·
       rw [if_pos c20] at H;obtain ⟨c20b0,c20b1⟩ := eT c20;clear c20;obtain rfl := Option.some.inj H;go_enter Try.func121,Try.ntmps121;go_wp2_with (first | ((with_reducible refine gD 1 rfl ?_);refine bX (w:=w) #[.int .i64 a0_0,.int .i64 a0_1,.int .i64 a0_2] 54 ?_;clear HB;intro gb101 w21 HB BK101 GW101;refine zz3 BK101.out ?_;intros) | ((with_reducible refine gate_callee (f := 72) rfl ?_);refine goesQ (some 5) Try.func72 #[.int .i64 a0_0,.int .i64 0,.int .i64 7] (impl_within.calls a0_0 0 7 true _ A2.out) fun nd => ?_) | (go_at_call 43;(with_reducible refine (impl_isWord.calls a0_2 true _ A4.out).mono ?_);rintro e w' ⟨rfl,⟨nd,rfl⟩⟩) | (go_at_call 119;(with_reducible refine (impl_needsExt.calls a0_0 false _ A6.out).mono ?_);rintro e w' ⟨rfl,⟨nd,rfl⟩⟩) | ((with_reducible refine gate_callee (f := 72) rfl ?_);refine goesQ (some 26) Try.func72 #[.int .i64 a0_1,.int .i64 0,.int .i64 3] (impl_within.calls a0_1 0 3 true _ A18.out) fun nd => ?_));go_ret;exact ⟨oE,oL⟩
      ·
       rw [if_neg c20] at H;obtain ⟨c20b0,c20b1⟩ := eF c20;obtain rfl := Option.some.inj H;go_enter Try.func121,Try.ntmps121;go_wp2_with (first | ((with_reducible refine gD 1 rfl ?_);refine bX (w:=w) #[.int .i64 a0_0,.int .i64 a0_1,.int .i64 a0_2] 54 ?_;clear HB;intro gb101 w23 HB BK101 GW101;refine zz3 BK101.out ?_;intros) | ((with_reducible refine gate_callee (f := 72) rfl ?_);refine goesQ (some 5) Try.func72 #[.int .i64 a0_0,.int .i64 0,.int .i64 7] (impl_within.calls a0_0 0 7 true _ A2.out) fun nd => ?_) | (go_at_call 43;(with_reducible refine (impl_isWord.calls a0_2 true _ A4.out).mono ?_);rintro e w' ⟨rfl,⟨nd,rfl⟩⟩) | (go_at_call 119;(with_reducible refine (impl_needsExt.calls a0_0 false _ A6.out).mono ?_);rintro e w' ⟨rfl,⟨nd,rfl⟩⟩) | ((with_reducible refine gate_callee (f := 72) rfl ?_);refine goesQ (some 26) Try.func72 #[.int .i64 a0_1,.int .i64 0,.int .i64 3] (impl_within.calls a0_1 0 3 true _ A18.out) fun nd => ?_));go_ret;exact ⟨oE,oL⟩
     ·
      replace c19 := Bool.eq_false_iff.mpr c19;subst c19;replace H := iF H;obtain rfl := Option.some.inj H;go_enter Try.func121,Try.ntmps121;go_wp2_with (first | ((with_reducible refine gD 1 rfl ?_);refine bX (w:=w) #[.int .i64 a0_0,.int .i64 a0_1,.int .i64 a0_2] 54 ?_;clear HB;intro gb101 w25 HB BK101 GW101;refine zz3 BK101.out ?_;intros) | ((with_reducible refine gate_callee (f := 72) rfl ?_);refine goesQ (some 5) Try.func72 #[.int .i64 a0_0,.int .i64 0,.int .i64 7] (impl_within.calls a0_0 0 7 true _ A2.out) fun nd => ?_) | (go_at_call 43;(with_reducible refine (impl_isWord.calls a0_2 true _ A4.out).mono ?_);rintro e w' ⟨rfl,⟨nd,rfl⟩⟩) | (go_at_call 119;(with_reducible refine (impl_needsExt.calls a0_0 false _ A6.out).mono ?_);rintro e w' ⟨rfl,⟨nd,rfl⟩⟩) | ((with_reducible refine gate_callee (f := 72) rfl ?_);refine goesQ (some 26) Try.func72 #[.int .i64 a0_1,.int .i64 0,.int .i64 3] (impl_within.calls a0_1 0 3 false _ A18.out) fun nd => ?_));go_ret;exact ⟨oE,oL⟩
    ·
     rw [if_neg c17] at H;obtain ⟨c17b0,c17b1⟩ := eF c17;obtain rfl := Option.some.inj H;go_enter Try.func121,Try.ntmps121;go_wp2_with (first | ((with_reducible refine gD 1 rfl ?_);refine bX (w:=w) #[.int .i64 a0_0,.int .i64 a0_1,.int .i64 a0_2] 54 ?_;clear HB;intro gb101 w27 HB BK101 GW101;refine zz3 BK101.out ?_;intros) | ((with_reducible refine gate_callee (f := 72) rfl ?_);refine goesQ (some 5) Try.func72 #[.int .i64 a0_0,.int .i64 0,.int .i64 7] (impl_within.calls a0_0 0 7 true _ A2.out) fun nd => ?_) | (go_at_call 43;(with_reducible refine (impl_isWord.calls a0_2 true _ A4.out).mono ?_);rintro e w' ⟨rfl,⟨nd,rfl⟩⟩) | (go_at_call 119;(with_reducible refine (impl_needsExt.calls a0_0 false _ A6.out).mono ?_);rintro e w' ⟨rfl,⟨nd,rfl⟩⟩));go_ret;exact ⟨oE,oL⟩
  ·
   replace c5 := Bool.eq_false_iff.mpr c5;subst c5;replace H := iF H;obtain rfl := Option.some.inj H;go_enter Try.func121,Try.ntmps121;go_wp2_with (first | ((with_reducible refine gD 1 rfl ?_);refine bX (w:=w) #[.int .i64 a0_0,.int .i64 a0_1,.int .i64 a0_2] 54 ?_;clear HB;intro gb101 w29 HB BK101 GW101;refine zz3 BK101.out ?_;intros) | ((with_reducible refine gate_callee (f := 72) rfl ?_);refine goesQ (some 5) Try.func72 #[.int .i64 a0_0,.int .i64 0,.int .i64 7] (impl_within.calls a0_0 0 7 true _ A2.out) fun nd => ?_) | (go_at_call 43;(with_reducible refine (impl_isWord.calls a0_2 false _ A4.out).mono ?_);rintro e w' ⟨rfl,⟨nd,rfl⟩⟩));go_ret;exact ⟨oE,oL⟩
 ·
  replace c3 := Bool.eq_false_iff.mpr c3;subst c3;replace H := iF H;obtain rfl := Option.some.inj H;go_enter Try.func121,Try.ntmps121;go_wp2_with (first | ((with_reducible refine gD 1 rfl ?_);refine bX (w:=w) #[.int .i64 a0_0,.int .i64 a0_1,.int .i64 a0_2] 54 ?_;clear HB;intro gb101 w31 HB BK101 GW101;refine zz3 BK101.out ?_;intros) | ((with_reducible refine gate_callee (f := 72) rfl ?_);refine goesQ (some 5) Try.func72 #[.int .i64 a0_0,.int .i64 0,.int .i64 7] (impl_within.calls a0_0 0 7 false _ A2.out) fun nd => ?_));go_ret;exact ⟨oE,oL⟩

/-! ### impl_isMemory: function 139 -/
def impl_isMemory.f (a0 : Int) : Option (Bool) := (impl_within.f a0 2 6).bind fun t101 => (some t101)
set_option maxHeartbeats 8000000 in
set_option maxRecDepth 100000 in
theorem impl_isMemory.calls (a0 : Int) (r : Bool) (w : World) (h : impl_isMemory.f a0 = some r) :
  Calls Try.prog 139 #[.int .i64 a0] w fun e w' => e = .returned (.bool r) ∧ Drawn0 w w' := by
 unfold impl_isMemory.f at h;have H := h;clear h;obtain ⟨t101,A2,H⟩ := bA_ H;obtain rfl := Option.some.inj H;go_enter Try.func139,Try.ntmps139;go_wp2_with (first | ((with_reducible refine gate_callee (f := 72) rfl ?_);refine goesQ (some 4) Try.func72 #[.int .i64 a0,.int .i64 2,.int .i64 6] (impl_within.calls a0 2 6 t101 _ A2.out) fun nd => ?_));go_ret;exact ⟨by first | rfl | (simp;done) | (simp [*];done),by repeat (first | exact Drawn0.refl _ | apply Drawn0.step)⟩

/-! ### impl_isSettable: function 132 -/
def impl_isSettable.f (a0 : Int) : Option (Bool) := if a0 = 0 then (some true) else ((impl_isMemory.f a0).bind fun t101 => (some t101))
set_option maxHeartbeats 8000000 in
set_option maxRecDepth 100000 in
theorem impl_isSettable.calls (a0 : Int) (r : Bool) (w : World) (h : impl_isSettable.f a0 = some r) :
  Calls Try.prog 132 #[.int .i64 a0] w fun e w' => e = .returned (.bool r) ∧ Drawn0 w w' := by
 unfold impl_isSettable.f at h;have H := h;clear h;by_cases c2 : a0 = 0;{rw [if_pos c2] at H;obtain ⟨c2b0,c2b1⟩ := eT c2;clear c2;obtain rfl := Option.some.inj H;go_enter Try.func132,Try.ntmps132;go_wp2;go_ret;exact ⟨by first | rfl | (simp;done) | (simp [*];done),by repeat (first | exact Drawn0.refl _ | apply Drawn0.step)⟩}
 ·
  rw [if_neg c2] at H;obtain ⟨c2b0,c2b1⟩ := eF c2;obtain ⟨t101,A3,H⟩ := bA_ H;obtain rfl := Option.some.inj H;go_enter Try.func132,Try.ntmps132;go_wp2_with (first | (go_at_call 139;(with_reducible refine (impl_isMemory.calls a0 t101 _ A3.out).mono ?_);rintro e w' ⟨rfl,⟨nd,rfl⟩⟩));go_ret;exact ⟨by first | rfl | (simp;done) | (simp [*];done),by repeat (first | exact Drawn0.refl _ | apply Drawn0.step)⟩

/-! ### impl_isPlain: function 133 -/
def impl_isPlain.f (a0 : Int) : Option (Bool) := if a0 = 2 then (some true) else (if a0 = 5 then (some true) else (some (a0 == 6)))
set_option maxHeartbeats 8000000 in
set_option maxRecDepth 100000 in
theorem impl_isPlain.calls (a0 : Int) (r : Bool) (w : World) (h : impl_isPlain.f a0 = some r) :
  Calls Try.prog 133 #[.int .i64 a0] w fun e w' => e = .returned (.bool r) ∧ Drawn0 w w' := by
 unfold impl_isPlain.f at h;have H := h;clear h;by_cases c2 : a0 = 2;{rw [if_pos c2] at H;obtain ⟨c2b0,c2b1⟩ := eT c2;clear c2;obtain rfl := Option.some.inj H;go_enter Try.func133,Try.ntmps133;go_wp2;go_ret;exact ⟨by first | rfl | (simp;done) | (simp [*];done),by repeat (first | exact Drawn0.refl _ | apply Drawn0.step)⟩}
 ·
  rw [if_neg c2] at H;obtain ⟨c2b0,c2b1⟩ := eF c2;by_cases c3 : a0 = 5;{rw [if_pos c3] at H;obtain ⟨c3b0,c3b1⟩ := eT c3;clear c3;obtain rfl := Option.some.inj H;go_enter Try.func133,Try.ntmps133;go_wp2;go_ret;exact ⟨by first | rfl | (simp;done) | (simp [*];done),by repeat (first | exact Drawn0.refl _ | apply Drawn0.step)⟩};{rw [if_neg c3] at H;obtain ⟨c3b0,c3b1⟩ := eF c3;obtain rfl := Option.some.inj H;go_enter Try.func133,Try.ntmps133;go_wp2;go_ret;exact ⟨by first | rfl | (simp;done) | (simp [*];done),by repeat (first | exact Drawn0.refl _ | apply Drawn0.step)⟩}

/-! ### impl_isNow: function 135 -/
def impl_isNow.f (a0_0 : Int) (a0_1 : Int) (a0_2 : Int) : Option (Bool) := if a0_0 = 7 then (some (decide (a0_2 ≤ 1023))) else (some false)
set_option maxHeartbeats 8000000 in
set_option maxRecDepth 100000 in
theorem impl_isNow.calls (a0_0 : Int) (a0_1 : Int) (a0_2 : Int) (r : Bool) (w : World) (h : impl_isNow.f a0_0 a0_1 a0_2 = some r) :
  Calls Try.prog 135 #[.agg #[.int .i64 a0_0,.int .i64 a0_1,.int .i64 a0_2]] w fun e w' => e = .returned (.bool r) ∧ Below w.heap.size w w' := by
 have hu54 := Try.underlying54;have HB := aS (Below.refl w.heap.size w);unfold impl_isNow.f at h;have H := h;clear h;by_cases c2 : a0_0 = 7
 ·
  rw [if_pos c2] at H;obtain ⟨c2b0,c2b1⟩ := eT c2;clear c2;obtain rfl := Option.some.inj H;go_enter Try.func135,Try.ntmps135;go_wp2_with (first | ((with_reducible refine gD 1 rfl ?_);refine bX (w:=w) #[.int .i64 a0_0,.int .i64 a0_1,.int .i64 a0_2] 54 ?_;clear HB;intro gb101 w3 HB BK101 GW101;refine zz3 BK101.out ?_;intros));go_ret;exact ⟨oE,oL⟩
 ·
  rw [if_neg c2] at H;obtain ⟨c2b0,c2b1⟩ := eF c2;obtain rfl := Option.some.inj H;go_enter Try.func135,Try.ntmps135;go_wp2_with (first | ((with_reducible refine gD 1 rfl ?_);refine bX (w:=w) #[.int .i64 a0_0,.int .i64 a0_1,.int .i64 a0_2] 54 ?_;clear HB;intro gb101 w5 HB BK101 GW101;refine zz3 BK101.out ?_;intros));go_ret;exact ⟨oE,oL⟩

/-! ### impl_isFlow: function 134 -/
def impl_isFlow.j0 : Nat → Bool → Int → Int → Int → Int → Int → Int → Int → Option (Bool)
 | 0,_,_,_,_,_,_,_,_ => none
 | k + 1,x3,x102000,x102001,x102002,x102003,x102004,x102005,x102006 => if x3 = true then (some false) else (if x102006 = 3 then (if x102002 = 0 then ((impl_isNow.f x102003 x102004 x102005).bind fun t102 => (some t102)) else (some false)) else (if x102006 < 3 then (if x102002 = 0 then (some (x102003 == 0 && (x102004 == 0 && (x102005 == 0)))) else (some false)) else (some (x102003 == 0 && (x102004 == 0 && (x102005 == 0))))))
def impl_isFlow.f (k : Nat) (a0_0 : Int) (a0_1 : Int) (a0_2 : Int) (a0_3 : Int) (a0_4 : Int) (a0_5 : Int) (a0_6 : Int) : Option (Bool) := if a0_1 = 2 then (impl_isFlow.j0 k (decide (a0_6 > 6)) a0_0 a0_1 a0_2 a0_3 a0_4 a0_5 a0_6) else (impl_isFlow.j0 k true a0_0 a0_1 a0_2 a0_3 a0_4 a0_5 a0_6)
theorem impl_isFlow.mono_l : ∀ k,(∀ y0 y1 y2 y3 y4 y5 y6 y7,LeO (impl_isFlow.j0 k y0 y1 y2 y3 y4 y5 y6 y7) (impl_isFlow.j0 (k + 1) y0 y1 y2 y3 y4 y5 y6 y7))
 | 0 => fun _ _ _ _ _ _ _ _ r h => by simp [impl_isFlow.j0] at h
 | k + 1 => by
  have ih0 := impl_isFlow.mono_l k
  ·
   intro y0 y1 y2 y3 y4 y5 y6 y7
   unfold impl_isFlow.j0
   with_reducible repeat' first | exact ih0 _ _ _ _ _ _ _ _ | exact LeO.refl _ | exact LeO.none _ | refine LeO.ite ?_ ?_ | refine LeO.bind ?_ (fun _ => ?_)
theorem impl_isFlow.mono : ∀ a0 a1 a2 a3 a4 a5 a6 k,LeO (impl_isFlow.f k a0 a1 a2 a3 a4 a5 a6) (impl_isFlow.f (k + 1) a0 a1 a2 a3 a4 a5 a6) := by
 intro a0 a1 a2 a3 a4 a5 a6 k
 have ih0 := impl_isFlow.mono_l k
 unfold impl_isFlow.f
 with_reducible repeat' first | exact ih0 _ _ _ _ _ _ _ _ | exact LeO.refl _ | exact LeO.none _ | refine LeO.ite ?_ ?_ | refine LeO.bind ?_ (fun _ => ?_)
set_option maxHeartbeats 8000000 in
set_option maxRecDepth 100000 in
theorem impl_isFlow.calls (k : Nat) (a0_0 : Int) (a0_1 : Int) (a0_2 : Int) (a0_3 : Int) (a0_4 : Int) (a0_5 : Int) (a0_6 : Int) (r : Bool) (w : World) (h : impl_isFlow.f k a0_0 a0_1 a0_2 a0_3 a0_4 a0_5 a0_6 = some r) :
  Calls Try.prog 134 #[.agg #[.int .i64 a0_0,.int .i64 a0_1,.int .i64 a0_2,.int .i64 a0_3,.int .i64 a0_4,.int .i64 a0_5,.int .i64 a0_6]] w fun e w' => e = .returned (.bool r) ∧ Below w.heap.size w w' := by
 have hu56 := Try.underlying56;have hu54 := Try.underlying54;have HB := aS (Below.refl w.heap.size w);unfold impl_isFlow.f at h;have H := h;clear h;have HC2 := aS H;clear H;go_enter Try.func134,Try.ntmps134;go_upto_region 1 with (first | ((with_reducible refine gD 1 rfl ?_);refine bX (w:=w) #[.int .i64 a0_0,.int .i64 a0_1,.int .i64 a0_2,.int .i64 a0_3,.int .i64 a0_4,.int .i64 a0_5,.int .i64 a0_6] 56 ?_;clear HB;intro gb101 w3 HB BK101 GW101));(try simp only [Act.put,List.setIfInBounds_toArray,List.set_cons_zero,List.set_cons_succ]);go_cut [3] (fun v3 wc => ∃ (kq : Nat) (x3_1 : Bool),v3 = .bool x3_1 ∧ Aside0 (impl_isFlow.j0 kq x3_1 a0_0 a0_1 a0_2 a0_3 a0_4 a0_5 a0_6 = some r) ∧ Aside0 (kq ≤ k) ∧ Aside0 (wc.heap[gb101]? = some (.cells #[.int .i64 a0_0,.int .i64 a0_1,.int .i64 a0_2,.int .i64 a0_3,.int .i64 a0_4,.int .i64 a0_5,.int .i64 a0_6] 56 (0,0))) ∧ Aside0 (Below w.heap.size w wc))
 case first =>
  have H := HC2.out;clear HC2;by_cases c4 : a0_1 = 2;{rw [if_pos c4] at H;obtain ⟨c4b0,c4b1⟩ := eT c4;clear c4;(first | rw [c4b0] | (simp only [i64_w,i32_w];rw [c4b0]) | skip);have H' := aS H;clear H;refine zz7 BK101.out ?_;intros;go_wp2;go_meet;case rel => exact ⟨_,(decide (a0_6 > 6)),oE,H',⟨by first | omega | exact Nat.le_refl _⟩,⟨oB BK101.out⟩,⟨oL⟩⟩};{rw [if_neg c4] at H;obtain ⟨c4b0,c4b1⟩ := eF c4;(first | rw [c4b0] | (simp only [i64_w,i32_w];rw [c4b0]) | skip);have H' := aS H;clear H;refine zz7 BK101.out ?_;intros;go_wp2;go_meet;case rel => exact ⟨_,(true),oE,H',⟨by first | omega | exact Nat.le_refl _⟩,⟨oB BK101.out⟩,⟨oL⟩⟩}
 case rest =>
  clear HC2;obtain ⟨kq,x3_1,rfl,HA,HJ1,BK101,HB⟩ := hcut;cases kq with
  | zero => exact absurd HA.out (by simp [impl_isFlow.j0])
  | succ kj1 =>
   have H := HA.out;clear HA;simp only [impl_isFlow.j0] at H;by_cases c7 : x3_1 = true;{subst c7;replace H := iT H;obtain rfl := Option.some.inj H;go_wp2;go_ret;exact ⟨oE,oL⟩}
   ·
    replace c7 := Bool.eq_false_iff.mpr c7;subst c7;replace H := iF H;by_cases c8 : a0_6 = 3
    ·
     rw [if_pos c8] at H;obtain ⟨c8b0,c8b1⟩ := eT c8;clear c8;by_cases c9 : a0_2 = 0
     ·
      rw [if_pos c9] at H;obtain ⟨c9b0,c9b1⟩ := eT c9;clear c9;obtain ⟨t102,A10,H⟩ := bA_ H;obtain rfl := Option.some.inj H;refine zz7 BK101.out ?_;intros;go_wp2_with (first | (go_at_call 135;(with_reducible refine (impl_isNow.calls a0_3 a0_4 a0_5 t102 _ A10.out).mono ?_);rintro e w12 ⟨rfl,hb⟩;refine mk2 (xB BK101 hb) (xL hb) ?_;clear BK101 HB;intro BK101 HB));go_ret;exact ⟨oE,oL⟩
     · rw [if_neg c9] at H;obtain ⟨c9b0,c9b1⟩ := eF c9;obtain rfl := Option.some.inj H;refine zz7 BK101.out ?_;intros;go_wp2;go_ret;exact ⟨oE,oL⟩
    ·
     rw [if_neg c8] at H;obtain ⟨c8b0,c8b1⟩ := eF c8;by_cases c14 : a0_6 < 3
     ·
      rw [if_pos c14] at H;have c14b0 := decide_eq_true c14;clear c14;by_cases c15 : a0_2 = 0;{rw [if_pos c15] at H;obtain ⟨c15b0,c15b1⟩ := eT c15;clear c15;obtain rfl := Option.some.inj H;refine zz7 BK101.out ?_;intros;go_wp2;go_ret;exact ⟨oE,oL⟩};{rw [if_neg c15] at H;obtain ⟨c15b0,c15b1⟩ := eF c15;obtain rfl := Option.some.inj H;refine zz7 BK101.out ?_;intros;go_wp2;go_ret;exact ⟨oE,oL⟩}
     · rw [if_neg c14] at H;have c14b0 := decide_eq_false c14;clear c14;obtain rfl := Option.some.inj H;refine zz7 BK101.out ?_;intros;go_wp2;go_ret;exact ⟨oE,oL⟩

end Go.Proofs.Ythlhapafipikmaa.C
