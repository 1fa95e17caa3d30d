-- Made by this session's program gprint.py out of the translation. Not trusted: Lean checks it.
import Derived.Test.YtblgjbhkndfjhaaHx0
import Derived.Test.YtblgjbhkndfjhaaHx2
import Derived.Test.YtblgjbhkndfjhaaHx4
import Derived.Test.YtblgjbhkndfjhaaHx6
import Derived.Test.YtblgjbhkndfjhaaHx8
namespace Go.Proofs.Ytblgjbhkndfjhaa.H
open Go.RowKit Go.Proofs.YtblgjbhkndfjhaaW.PrintWords Go.Proofs.YtblgjbhkndfjhaaW.PrintLast Go.Proofs.YtblgjbhkndfjhaaW.PrintMore
attribute [local go_sem] max2_int min2_int max_two min_two max_three min_three max_four min_four   -- for this text's walks alone
set_option linter.unusedVariables false
set_option linter.unusedSimpArgs false

/-! ### laws_FnExactGoodCpu: function 4 -/
def laws_FnExactGoodCpu.f (k : Nat) (l0_0 : List Int) (l0_1 : List Int) (a0_2 : Int) (a0_3 : Int) (a0_4 : Int) (a0_5 : Int) (a0_6 : Bool) (a0_7 : Bool) (l0_8 : List Int) (l0_9 : List (S159)) (a0_10 : Bool) (a0_11 : Bool) : Option (Bool) := (laws_szCpu.f l0_0 l0_1 a0_2 a0_3 a0_4 a0_5 a0_6 a0_7 l0_8 l0_9 a0_10 a0_11 1048576).bind fun t410 => (if t410 < 0 then (some true) else ((laws_toCpu.f k l0_0 l0_1 a0_2 a0_3 a0_4 a0_5 a0_6 a0_7 l0_8 l0_9 a0_10 a0_11).bind fun bt411 => ((spec_GoodCpu.f k bt411.1 bt411.2.1 bt411.2.2.1 bt411.2.2.2.1 bt411.2.2.2.2.1 bt411.2.2.2.2.2.1 bt411.2.2.2.2.2.2.1 bt411.2.2.2.2.2.2.2.1 bt411.2.2.2.2.2.2.2.2.1 bt411.2.2.2.2.2.2.2.2.2.1 bt411.2.2.2.2.2.2.2.2.2.2.1 bt411.2.2.2.2.2.2.2.2.2.2.2).bind fun t431 => ((laws_toCpu.f k l0_0 l0_1 a0_2 a0_3 a0_4 a0_5 a0_6 a0_7 l0_8 l0_9 a0_10 a0_11).bind fun bt432 => ((impl_GoodCpu.f k bt432.1 bt432.2.1 bt432.2.2.1 bt432.2.2.2.1 bt432.2.2.2.2.1 bt432.2.2.2.2.2.1 bt432.2.2.2.2.2.2.1 bt432.2.2.2.2.2.2.2.1 bt432.2.2.2.2.2.2.2.2.1 bt432.2.2.2.2.2.2.2.2.2.1 bt432.2.2.2.2.2.2.2.2.2.2.1 bt432.2.2.2.2.2.2.2.2.2.2.2).bind fun t453 => (if (t453 != t431) = true then (some false) else ((laws_toCpu.f k l0_0 l0_1 a0_2 a0_3 a0_4 a0_5 a0_6 a0_7 l0_8 l0_9 a0_10 a0_11).bind fun bt454 => ((laws_eqCpu.f k bt432.1 bt432.2.1 bt432.2.2.1 bt432.2.2.2.1 bt432.2.2.2.2.1 bt432.2.2.2.2.2.1 bt432.2.2.2.2.2.2.1 bt432.2.2.2.2.2.2.2.1 bt432.2.2.2.2.2.2.2.2.1 bt432.2.2.2.2.2.2.2.2.2.1 bt432.2.2.2.2.2.2.2.2.2.2.1 bt432.2.2.2.2.2.2.2.2.2.2.2 bt454.1 bt454.2.1 bt454.2.2.1 bt454.2.2.2.1 bt454.2.2.2.2.1 bt454.2.2.2.2.2.1 bt454.2.2.2.2.2.2.1 bt454.2.2.2.2.2.2.2.1 bt454.2.2.2.2.2.2.2.2.1 bt454.2.2.2.2.2.2.2.2.2.1 bt454.2.2.2.2.2.2.2.2.2.2.1 bt454.2.2.2.2.2.2.2.2.2.2.2).bind fun t474 => (if t474 = true then (some true) else (some false))))))))))
theorem laws_FnExactGoodCpu.mono : ∀ a0 a1 a2 a3 a4 a5 a6 a7 a8 a9 a10 a11 k, LeO (laws_FnExactGoodCpu.f k a0 a1 a2 a3 a4 a5 a6 a7 a8 a9 a10 a11) (laws_FnExactGoodCpu.f (k + 1) a0 a1 a2 a3 a4 a5 a6 a7 a8 a9 a10 a11) := by
  intro a0 a1 a2 a3 a4 a5 a6 a7 a8 a9 a10 a11 k
  unfold laws_FnExactGoodCpu.f
  repeat' first
      | (with_reducible exact impl_GoodCpu.mono _ _ _ _ _ _ _ _ _ _ _ _ _)
      | (with_reducible exact laws_eqCpu.mono _ _ _ _ _ _ _ _ _ _ _ _ _ _ _ _ _ _ _ _ _ _ _ _ _)
      | (with_reducible exact laws_toCpu.mono _ _ _ _ _ _ _ _ _ _ _ _ _)
      | (with_reducible exact spec_GoodCpu.mono _ _ _ _ _ _ _ _ _ _ _ _ _)
      | (with_reducible exact LeO.refl _)
      | (with_reducible exact LeO.none _)
      | (with_reducible refine LeO.ite ?_ ?_)
      | (with_reducible refine LeO.bind ?_ (fun _ => ?_))
      | exact impl_GoodCpu.mono _ _ _ _ _ _ _ _ _ _ _ _ _
      | exact laws_eqCpu.mono _ _ _ _ _ _ _ _ _ _ _ _ _ _ _ _ _ _ _ _ _ _ _ _ _
      | exact laws_toCpu.mono _ _ _ _ _ _ _ _ _ _ _ _ _
      | exact spec_GoodCpu.mono _ _ _ _ _ _ _ _ _ _ _ _ _
      | exact LeO.none _
      | refine LeO.ite ?_ ?_
      | refine LeO.bind ?_ (fun _ => ?_)
set_option maxHeartbeats 8000000 in
set_option maxRecDepth 100000 in
theorem laws_FnExactGoodCpu.calls (k : Nat) (A0_0 : Option Addr) (c0_0 : Nat) (l0_0 : List Int) (A0_1 : Option Addr) (c0_1 : Nat) (l0_1 : List Int) (a0_2 : Int) (a0_3 : Int) (a0_4 : Int) (a0_5 : Int) (a0_6 : Bool) (a0_7 : Bool) (A0_8 : Option Addr) (c0_8 : Nat) (l0_8 : List Int) (A0_9 : Option Addr) (c0_9 : Nat) (l0_9 : List (S159)) (a0_10 : Bool) (a0_11 : Bool) (r : Bool) (hr_ : Aside0 (r = true)) (w : World) (hr0_0 : Kd.C (Kd.int .i64) w A0_0 l0_0.length l0_0) (hc0_0 : l0_0.length ≤ c0_0) (hr0_1 : Kd.C (Kd.int .i64) w A0_1 l0_1.length l0_1) (hc0_1 : l0_1.length ≤ c0_1) (hr0_8 : Kd.C (Kd.int .i64) w A0_8 l0_8.length l0_8) (hc0_8 : l0_8.length ≤ c0_8) (hr0_9 : Kd.C k159 w A0_9 l0_9.length l0_9) (hc0_9 : l0_9.length ≤ c0_9) (h : laws_FnExactGoodCpu.f k l0_0 l0_1 a0_2 a0_3 a0_4 a0_5 a0_6 a0_7 l0_8 l0_9 a0_10 a0_11 = some r) :
    Calls Try.prog 4 #[.agg #[.slice A0_0 l0_0.length c0_0, .slice A0_1 l0_1.length c0_1, .int .i64 a0_2, .int .i64 a0_3, .int .i64 a0_4, .int .i64 a0_5, .bool a0_6, .bool a0_7, .slice A0_8 l0_8.length c0_8, .slice A0_9 l0_9.length c0_9, .bool a0_10, .bool a0_11]] w fun e w' => e = .returned (.bool r) ∧ Below w.heap.size w w' := by
  have hu29 := Try.underlying29
  have hu37 := Try.underlying37
  have HR0_0 := Aside0.mk hr0_0
  have HC0_0 := Aside0.mk hc0_0
  clear hr0_0 hc0_0
  have HR0_1 := Aside0.mk hr0_1
  have HC0_1 := Aside0.mk hc0_1
  clear hr0_1 hc0_1
  have HR0_8 := Aside0.mk hr0_8
  have HC0_8 := Aside0.mk hc0_8
  clear hr0_8 hc0_8
  have HR0_9 := Aside0.mk hr0_9
  have HC0_9 := Aside0.mk hc0_9
  clear hr0_9 hc0_9
  have HB := Aside0.mk (Below.refl w.heap.size w)
  have H : ((laws_szCpu.f l0_0 l0_1 a0_2 a0_3 a0_4 a0_5 a0_6 a0_7 l0_8 l0_9 a0_10 a0_11 1048576).bind fun t410 => (if t410 < 0 then (some true) else ((laws_toCpu.f k l0_0 l0_1 a0_2 a0_3 a0_4 a0_5 a0_6 a0_7 l0_8 l0_9 a0_10 a0_11).bind fun bt411 => ((spec_GoodCpu.f k bt411.1 bt411.2.1 bt411.2.2.1 bt411.2.2.2.1 bt411.2.2.2.2.1 bt411.2.2.2.2.2.1 bt411.2.2.2.2.2.2.1 bt411.2.2.2.2.2.2.2.1 bt411.2.2.2.2.2.2.2.2.1 bt411.2.2.2.2.2.2.2.2.2.1 bt411.2.2.2.2.2.2.2.2.2.2.1 bt411.2.2.2.2.2.2.2.2.2.2.2).bind fun t431 => ((laws_toCpu.f k l0_0 l0_1 a0_2 a0_3 a0_4 a0_5 a0_6 a0_7 l0_8 l0_9 a0_10 a0_11).bind fun bt432 => ((impl_GoodCpu.f k bt432.1 bt432.2.1 bt432.2.2.1 bt432.2.2.2.1 bt432.2.2.2.2.1 bt432.2.2.2.2.2.1 bt432.2.2.2.2.2.2.1 bt432.2.2.2.2.2.2.2.1 bt432.2.2.2.2.2.2.2.2.1 bt432.2.2.2.2.2.2.2.2.2.1 bt432.2.2.2.2.2.2.2.2.2.2.1 bt432.2.2.2.2.2.2.2.2.2.2.2).bind fun t453 => (if (t453 != t431) = true then (some false) else ((laws_toCpu.f k l0_0 l0_1 a0_2 a0_3 a0_4 a0_5 a0_6 a0_7 l0_8 l0_9 a0_10 a0_11).bind fun bt454 => ((laws_eqCpu.f k bt432.1 bt432.2.1 bt432.2.2.1 bt432.2.2.2.1 bt432.2.2.2.2.1 bt432.2.2.2.2.2.1 bt432.2.2.2.2.2.2.1 bt432.2.2.2.2.2.2.2.1 bt432.2.2.2.2.2.2.2.2.1 bt432.2.2.2.2.2.2.2.2.2.1 bt432.2.2.2.2.2.2.2.2.2.2.1 bt432.2.2.2.2.2.2.2.2.2.2.2 bt454.1 bt454.2.1 bt454.2.2.1 bt454.2.2.2.1 bt454.2.2.2.2.1 bt454.2.2.2.2.2.1 bt454.2.2.2.2.2.2.1 bt454.2.2.2.2.2.2.2.1 bt454.2.2.2.2.2.2.2.2.1 bt454.2.2.2.2.2.2.2.2.2.1 bt454.2.2.2.2.2.2.2.2.2.2.1 bt454.2.2.2.2.2.2.2.2.2.2.2).bind fun t474 => (if t474 = true then (some true) else (some false))))))))))) = some r := h
  clear h
  replace H := Option.bind_eq_some_iff.mp H
  obtain ⟨t410, A20, H⟩ := H
  replace H : (if t410 < 0 then (some true) else ((laws_toCpu.f k l0_0 l0_1 a0_2 a0_3 a0_4 a0_5 a0_6 a0_7 l0_8 l0_9 a0_10 a0_11).bind fun bt411 => ((spec_GoodCpu.f k bt411.1 bt411.2.1 bt411.2.2.1 bt411.2.2.2.1 bt411.2.2.2.2.1 bt411.2.2.2.2.2.1 bt411.2.2.2.2.2.2.1 bt411.2.2.2.2.2.2.2.1 bt411.2.2.2.2.2.2.2.2.1 bt411.2.2.2.2.2.2.2.2.2.1 bt411.2.2.2.2.2.2.2.2.2.2.1 bt411.2.2.2.2.2.2.2.2.2.2.2).bind fun t431 => ((laws_toCpu.f k l0_0 l0_1 a0_2 a0_3 a0_4 a0_5 a0_6 a0_7 l0_8 l0_9 a0_10 a0_11).bind fun bt432 => ((impl_GoodCpu.f k bt432.1 bt432.2.1 bt432.2.2.1 bt432.2.2.2.1 bt432.2.2.2.2.1 bt432.2.2.2.2.2.1 bt432.2.2.2.2.2.2.1 bt432.2.2.2.2.2.2.2.1 bt432.2.2.2.2.2.2.2.2.1 bt432.2.2.2.2.2.2.2.2.2.1 bt432.2.2.2.2.2.2.2.2.2.2.1 bt432.2.2.2.2.2.2.2.2.2.2.2).bind fun t453 => (if (t453 != t431) = true then (some false) else ((laws_toCpu.f k l0_0 l0_1 a0_2 a0_3 a0_4 a0_5 a0_6 a0_7 l0_8 l0_9 a0_10 a0_11).bind fun bt454 => ((laws_eqCpu.f k bt432.1 bt432.2.1 bt432.2.2.1 bt432.2.2.2.1 bt432.2.2.2.2.1 bt432.2.2.2.2.2.1 bt432.2.2.2.2.2.2.1 bt432.2.2.2.2.2.2.2.1 bt432.2.2.2.2.2.2.2.2.1 bt432.2.2.2.2.2.2.2.2.2.1 bt432.2.2.2.2.2.2.2.2.2.2.1 bt432.2.2.2.2.2.2.2.2.2.2.2 bt454.1 bt454.2.1 bt454.2.2.1 bt454.2.2.2.1 bt454.2.2.2.2.1 bt454.2.2.2.2.2.1 bt454.2.2.2.2.2.2.1 bt454.2.2.2.2.2.2.2.1 bt454.2.2.2.2.2.2.2.2.1 bt454.2.2.2.2.2.2.2.2.2.1 bt454.2.2.2.2.2.2.2.2.2.2.1 bt454.2.2.2.2.2.2.2.2.2.2.2).bind fun t474 => (if t474 = true then (some true) else (some false)))))))))) = some r := H
  have A2 := Aside0.mk A20
  clear A20
  by_cases c3 : t410 < 0
  · rw [if_pos c3] at H
    have c3b0 : decide (t410 < 0) = true := decide_eq_true c3
    clear c3
    obtain rfl := Option.some.inj H
    go_enter Try.func4, Try.ntmps4
    go_wp2_with (first | ((with_reducible refine gate_dst (N := 1) rfl ?_); refine box_event ?hg (N := 1) ?hd (cs := #[.slice A0_0 l0_0.length c0_0, .slice A0_1 l0_1.length c0_1, .int .i64 a0_2, .int .i64 a0_3, .int .i64 a0_4, .int .i64 a0_5, .bool a0_6, .bool a0_7, .slice A0_8 l0_8.length c0_8, .slice A0_9 l0_9.length c0_9, .bool a0_10, .bool a0_11]) (t := 29) ?hr ?_; (case hd => rfl); (case hg => rfl); (case hr => first | (go_simp; done) | (go_simp; rfl)); intro gb409 hg w4 hbox hb; have n0_ := Aside0.mk (below_step oL hb); have n1_ := Aside0.mk (hbox); have n2_ := Aside0.mk ((oS hg oL : w.heap.size ≤ gb409)); have n3_ := Aside0.mk ((oS hg oL : w.heap.size ≤ gb409)); clear HB; have HB := n0_; have BK409 := n1_; have GW409 := n2_; have GE409 := n3_; clear n0_ n1_ n2_ n3_; clear hb hbox hg; obtain ⟨hcz5_0, hcz5_1, hcz5_2, hcz5_3, hcz5_4, hcz5_5, hcz5_6, hcz5_7, hcz5_8, hcz5_9, hcz5_10, hcz5_11⟩ := cz12 BK409.out; obtain ⟨hfz5_0, hfz5_1, hfz5_2, hfz5_3, hfz5_4, hfz5_5, hfz5_6, hfz5_7, hfz5_8, hfz5_9, hfz5_10, hfz5_11⟩ := fz12 BK409.out) | ((with_reducible refine gate_callee (f := 18) rfl ?_); refine goesL_ (some 9) rfl rfl Try.func18 (by kernel_rfl) rfl #[.agg #[.slice A0_0 l0_0.length c0_0, .slice A0_1 l0_1.length c0_1, .int .i64 a0_2, .int .i64 a0_3, .int .i64 a0_4, .int .i64 a0_5, .bool a0_6, .bool a0_7, .slice A0_8 l0_8.length c0_8, .slice A0_9 l0_9.length c0_9, .bool a0_10, .bool a0_11], .int .i64 1048576] rfl (by (try simp only [List.map_toArray, List.map_cons, List.map_nil]); first | done | rfl | (simp only [List.length_drop, List.length_take]; rfl)) ?_; (with_reducible refine (laws_szCpu.calls _ _ l0_0 _ _ l0_1 a0_2 a0_3 a0_4 a0_5 a0_6 a0_7 _ _ l0_8 _ _ l0_9 a0_10 a0_11 1048576 t410 _ ?side1 ?side2 ?side3 ?side4 ?side5 ?side6 ?side7 ?side8 A2.out).mono ?_); (case side1 => exact oC HR0_0.out); (case side2 => exact HC0_0.out); (case side3 => exact oC HR0_1.out); (case side4 => exact HC0_1.out); (case side5 => exact oC HR0_8.out); (case side6 => exact HC0_8.out); (case side7 => exact oC HR0_9.out); (case side8 => exact HC0_9.out); rintro e w6 ⟨rfl, hb⟩; refine ⟨_, rfl, ?_⟩; have n0_ := Aside0.mk (blk_below (oB BK409.out) hb); have n1_ := Aside0.mk (below_step oL hb); clear BK409; clear HB; have BK409 := n0_; have HB := n1_; clear n0_ n1_; (try clear hb); (try clear hb2); (try clear hk); (try clear hi)))
    go_ret
    exact ⟨by first | rfl | (simp [errW_none, errW_some] <;> rfl) | (simp [*, errW_none, errW_some] <;> rfl), by repeat (first | (with_reducible first | exact HB.out | apply below_alloc | apply pw_below_drewN | apply below_drew1 | refine below_set ?_ GE409.out) | exact HB.out)⟩
  · rw [if_neg c3] at H
    have c3b0 : decide (t410 < 0) = false := decide_eq_false c3
    clear c3
    replace H := Option.bind_eq_some_iff.mp H
    obtain ⟨⟨t411, t414, t417, t418, t419, t420, t421, t422, t423, t426, t429, t430⟩, A70, H⟩ := H
    replace H : ((spec_GoodCpu.f k t411 t414 t417 t418 t419 t420 t421 t422 t423 t426 t429 t430).bind fun t431 => ((laws_toCpu.f k l0_0 l0_1 a0_2 a0_3 a0_4 a0_5 a0_6 a0_7 l0_8 l0_9 a0_10 a0_11).bind fun bt432 => ((impl_GoodCpu.f k bt432.1 bt432.2.1 bt432.2.2.1 bt432.2.2.2.1 bt432.2.2.2.2.1 bt432.2.2.2.2.2.1 bt432.2.2.2.2.2.2.1 bt432.2.2.2.2.2.2.2.1 bt432.2.2.2.2.2.2.2.2.1 bt432.2.2.2.2.2.2.2.2.2.1 bt432.2.2.2.2.2.2.2.2.2.2.1 bt432.2.2.2.2.2.2.2.2.2.2.2).bind fun t453 => (if (t453 != t431) = true then (some false) else ((laws_toCpu.f k l0_0 l0_1 a0_2 a0_3 a0_4 a0_5 a0_6 a0_7 l0_8 l0_9 a0_10 a0_11).bind fun bt454 => ((laws_eqCpu.f k bt432.1 bt432.2.1 bt432.2.2.1 bt432.2.2.2.1 bt432.2.2.2.2.1 bt432.2.2.2.2.2.1 bt432.2.2.2.2.2.2.1 bt432.2.2.2.2.2.2.2.1 bt432.2.2.2.2.2.2.2.2.1 bt432.2.2.2.2.2.2.2.2.2.1 bt432.2.2.2.2.2.2.2.2.2.2.1 bt432.2.2.2.2.2.2.2.2.2.2.2 bt454.1 bt454.2.1 bt454.2.2.1 bt454.2.2.2.1 bt454.2.2.2.2.1 bt454.2.2.2.2.2.1 bt454.2.2.2.2.2.2.1 bt454.2.2.2.2.2.2.2.1 bt454.2.2.2.2.2.2.2.2.1 bt454.2.2.2.2.2.2.2.2.2.1 bt454.2.2.2.2.2.2.2.2.2.2.1 bt454.2.2.2.2.2.2.2.2.2.2.2).bind fun t474 => (if t474 = true then (some true) else (some false)))))))) = some r := H
    have A7 := Aside0.mk A70
    clear A70
    replace H := Option.bind_eq_some_iff.mp H
    obtain ⟨t431, A80, H⟩ := H
    replace H : ((laws_toCpu.f k l0_0 l0_1 a0_2 a0_3 a0_4 a0_5 a0_6 a0_7 l0_8 l0_9 a0_10 a0_11).bind fun bt432 => ((impl_GoodCpu.f k bt432.1 bt432.2.1 bt432.2.2.1 bt432.2.2.2.1 bt432.2.2.2.2.1 bt432.2.2.2.2.2.1 bt432.2.2.2.2.2.2.1 bt432.2.2.2.2.2.2.2.1 bt432.2.2.2.2.2.2.2.2.1 bt432.2.2.2.2.2.2.2.2.2.1 bt432.2.2.2.2.2.2.2.2.2.2.1 bt432.2.2.2.2.2.2.2.2.2.2.2).bind fun t453 => (if (t453 != t431) = true then (some false) else ((laws_toCpu.f k l0_0 l0_1 a0_2 a0_3 a0_4 a0_5 a0_6 a0_7 l0_8 l0_9 a0_10 a0_11).bind fun bt454 => ((laws_eqCpu.f k bt432.1 bt432.2.1 bt432.2.2.1 bt432.2.2.2.1 bt432.2.2.2.2.1 bt432.2.2.2.2.2.1 bt432.2.2.2.2.2.2.1 bt432.2.2.2.2.2.2.2.1 bt432.2.2.2.2.2.2.2.2.1 bt432.2.2.2.2.2.2.2.2.2.1 bt432.2.2.2.2.2.2.2.2.2.2.1 bt432.2.2.2.2.2.2.2.2.2.2.2 bt454.1 bt454.2.1 bt454.2.2.1 bt454.2.2.2.1 bt454.2.2.2.2.1 bt454.2.2.2.2.2.1 bt454.2.2.2.2.2.2.1 bt454.2.2.2.2.2.2.2.1 bt454.2.2.2.2.2.2.2.2.1 bt454.2.2.2.2.2.2.2.2.2.1 bt454.2.2.2.2.2.2.2.2.2.2.1 bt454.2.2.2.2.2.2.2.2.2.2.2).bind fun t474 => (if t474 = true then (some true) else (some false))))))) = some r := H
    have A8 := Aside0.mk A80
    clear A80
    replace H := Option.bind_eq_some_iff.mp H
    obtain ⟨⟨t432, t435, t438, t439, t440, t441, t442, t443, t444, t447, t450, t451⟩, A90, H⟩ := H
    replace H : ((impl_GoodCpu.f k t432 t435 t438 t439 t440 t441 t442 t443 t444 t447 t450 t451).bind fun t453 => (if (t453 != t431) = true then (some false) else ((laws_toCpu.f k l0_0 l0_1 a0_2 a0_3 a0_4 a0_5 a0_6 a0_7 l0_8 l0_9 a0_10 a0_11).bind fun bt454 => ((laws_eqCpu.f k t432 t435 t438 t439 t440 t441 t442 t443 t444 t447 t450 t451 bt454.1 bt454.2.1 bt454.2.2.1 bt454.2.2.2.1 bt454.2.2.2.2.1 bt454.2.2.2.2.2.1 bt454.2.2.2.2.2.2.1 bt454.2.2.2.2.2.2.2.1 bt454.2.2.2.2.2.2.2.2.1 bt454.2.2.2.2.2.2.2.2.2.1 bt454.2.2.2.2.2.2.2.2.2.2.1 bt454.2.2.2.2.2.2.2.2.2.2.2).bind fun t474 => (if t474 = true then (some true) else (some false)))))) = some r := H
    have A9 := Aside0.mk A90
    clear A90
    replace H := Option.bind_eq_some_iff.mp H
    obtain ⟨t453, A100, H⟩ := H
    replace H : (if (t453 != t431) = true then (some false) else ((laws_toCpu.f k l0_0 l0_1 a0_2 a0_3 a0_4 a0_5 a0_6 a0_7 l0_8 l0_9 a0_10 a0_11).bind fun bt454 => ((laws_eqCpu.f k t432 t435 t438 t439 t440 t441 t442 t443 t444 t447 t450 t451 bt454.1 bt454.2.1 bt454.2.2.1 bt454.2.2.2.1 bt454.2.2.2.2.1 bt454.2.2.2.2.2.1 bt454.2.2.2.2.2.2.1 bt454.2.2.2.2.2.2.2.1 bt454.2.2.2.2.2.2.2.2.1 bt454.2.2.2.2.2.2.2.2.2.1 bt454.2.2.2.2.2.2.2.2.2.2.1 bt454.2.2.2.2.2.2.2.2.2.2.2).bind fun t474 => (if t474 = true then (some true) else (some false))))) = some r := H
    have A10 := Aside0.mk A100
    clear A100
    by_cases c11 : (t453 != t431) = true
    · rw [if_pos c11] at H
      have c11b0 : (t453 != t431) = true := c11
      (try (have c11b1 : decide (t453 = t431) = false := by simpa using c11))
      (try (have c11b2 : (t453 == t431) = false := by simpa using c11))
      (try (have c11b3 : ¬ (t453 = t431) := by simpa using c11))
      clear c11
      exact absurd H (by rw [hr_.out]; simp)
    · rw [if_neg c11] at H
      have c11b0 : (t453 != t431) = false := by simpa using c11
      (try (have c11b1 : decide (t453 = t431) = true := by simpa using c11))
      (try (have c11b2 : (t453 == t431) = true := by simpa using c11))
      clear c11
      replace H := Option.bind_eq_some_iff.mp H
      obtain ⟨⟨t454, t457, t460, t461, t462, t463, t464, t465, t466, t469, t472, t473⟩, A120, H⟩ := H
      replace H : ((laws_eqCpu.f k t432 t435 t438 t439 t440 t441 t442 t443 t444 t447 t450 t451 t454 t457 t460 t461 t462 t463 t464 t465 t466 t469 t472 t473).bind fun t474 => (if t474 = true then (some true) else (some false))) = some r := H
      have A12 := Aside0.mk A120
      clear A120
      replace H := Option.bind_eq_some_iff.mp H
      obtain ⟨t474, A130, H⟩ := H
      replace H : (if t474 = true then (some true) else (some false)) = some r := H
      have A13 := Aside0.mk A130
      clear A130
      by_cases c14 : t474 = true
      · subst c14
        have H1 : (some true) = some r := by rw [if_pos rfl] at H; exact H
        clear H
        have H := H1
        clear H1
        obtain rfl := Option.some.inj H
        go_enter Try.func4, Try.ntmps4
        try go_wp2_with (first | ((with_reducible refine gate_dst (N := 1) rfl ?_); refine box_event ?hg (N := 1) ?hd (cs := #[.slice A0_0 l0_0.length c0_0, .slice A0_1 l0_1.length c0_1, .int .i64 a0_2, .int .i64 a0_3, .int .i64 a0_4, .int .i64 a0_5, .bool a0_6, .bool a0_7, .slice A0_8 l0_8.length c0_8, .slice A0_9 l0_9.length c0_9, .bool a0_10, .bool a0_11]) (t := 29) ?hr ?_; (case hd => rfl); (case hg => rfl); (case hr => first | (go_simp; done) | (go_simp; rfl)); intro gb409 hg w15 hbox hb; have n0_ := Aside0.mk (below_step oL hb); have n1_ := Aside0.mk (hbox); have n2_ := Aside0.mk ((oS hg oL : w.heap.size ≤ gb409)); have n3_ := Aside0.mk ((oS hg oL : w.heap.size ≤ gb409)); clear HB; have HB := n0_; have BK409 := n1_; have GW409 := n2_; have GE409 := n3_; clear n0_ n1_ n2_ n3_; clear hb hbox hg; obtain ⟨hcz16_0, hcz16_1, hcz16_2, hcz16_3, hcz16_4, hcz16_5, hcz16_6, hcz16_7, hcz16_8, hcz16_9, hcz16_10, hcz16_11⟩ := cz12 BK409.out; obtain ⟨hfz16_0, hfz16_1, hfz16_2, hfz16_3, hfz16_4, hfz16_5, hfz16_6, hfz16_7, hfz16_8, hfz16_9, hfz16_10, hfz16_11⟩ := fz12 BK409.out) | ((with_reducible refine gate_callee (f := 18) rfl ?_); refine goesL_ (some 9) rfl rfl Try.func18 (by kernel_rfl) rfl #[.agg #[.slice A0_0 l0_0.length c0_0, .slice A0_1 l0_1.length c0_1, .int .i64 a0_2, .int .i64 a0_3, .int .i64 a0_4, .int .i64 a0_5, .bool a0_6, .bool a0_7, .slice A0_8 l0_8.length c0_8, .slice A0_9 l0_9.length c0_9, .bool a0_10, .bool a0_11], .int .i64 1048576] rfl (by (try simp only [List.map_toArray, List.map_cons, List.map_nil]); first | done | rfl | (simp only [List.length_drop, List.length_take]; rfl)) ?_; (with_reducible refine (laws_szCpu.calls _ _ l0_0 _ _ l0_1 a0_2 a0_3 a0_4 a0_5 a0_6 a0_7 _ _ l0_8 _ _ l0_9 a0_10 a0_11 1048576 t410 _ ?side1 ?side2 ?side3 ?side4 ?side5 ?side6 ?side7 ?side8 A2.out).mono ?_); (case side1 => exact oC HR0_0.out); (case side2 => exact HC0_0.out); (case side3 => exact oC HR0_1.out); (case side4 => exact HC0_1.out); (case side5 => exact oC HR0_8.out); (case side6 => exact HC0_8.out); (case side7 => exact oC HR0_9.out); (case side8 => exact HC0_9.out); rintro e w17 ⟨rfl, hb⟩; refine ⟨_, rfl, ?_⟩; have n0_ := Aside0.mk (blk_below (oB BK409.out) hb); have n1_ := Aside0.mk (below_step oL hb); clear BK409; clear HB; have BK409 := n0_; have HB := n1_; clear n0_ n1_; (try clear hb); (try clear hb2); (try clear hk); (try clear hi); obtain ⟨hcz18_0, hcz18_1, hcz18_2, hcz18_3, hcz18_4, hcz18_5, hcz18_6, hcz18_7, hcz18_8, hcz18_9, hcz18_10, hcz18_11⟩ := cz12 BK409.out; obtain ⟨hfz18_0, hfz18_1, hfz18_2, hfz18_3, hfz18_4, hfz18_5, hfz18_6, hfz18_7, hfz18_8, hfz18_9, hfz18_10, hfz18_11⟩ := fz12 BK409.out) | ((with_reducible refine gate_callee (f := 20) rfl ?_); refine goesL_ (some 13) rfl rfl Try.func20 (by kernel_rfl) rfl #[.agg #[.slice A0_0 l0_0.length c0_0, .slice A0_1 l0_1.length c0_1, .int .i64 a0_2, .int .i64 a0_3, .int .i64 a0_4, .int .i64 a0_5, .bool a0_6, .bool a0_7, .slice A0_8 l0_8.length c0_8, .slice A0_9 l0_9.length c0_9, .bool a0_10, .bool a0_11]] rfl (by (try simp only [List.map_toArray, List.map_cons, List.map_nil]); first | done | rfl | (simp only [List.length_drop, List.length_take]; rfl)) ?_; (with_reducible refine (laws_toCpu.calls k _ _ l0_0 _ _ l0_1 a0_2 a0_3 a0_4 a0_5 a0_6 a0_7 _ _ l0_8 _ _ l0_9 a0_10 a0_11 t411 t414 t417 t418 t419 t420 t421 t422 t423 t426 t429 t430 _ ?side1 ?side2 ?side3 ?side4 ?side5 ?side6 ?side7 ?side8 A7.out).mono ?_); (case side1 => exact oC HR0_0.out); (case side2 => exact HC0_0.out); (case side3 => exact oC HR0_1.out); (case side4 => exact HC0_1.out); (case side5 => exact oC HR0_8.out); (case side6 => exact HC0_8.out); (case side7 => exact oC HR0_9.out); (case side8 => exact HC0_9.out); rintro e w19 ⟨v412, v415, v424, v427, rfl, ho0, ho1, ho2, ho3, hb⟩; refine ⟨_, rfl, ?_⟩; have n0_ := Aside0.mk (Kd.R_lower ho0 (below_size oL)); have n1_ := Aside0.mk (Kd.R_lower ho1 (below_size oL)); have n2_ := Aside0.mk (Kd.R_lower ho2 (below_size oL)); have n3_ := Aside0.mk (Kd.R_lower ho3 (below_size oL)); have n4_ := Aside0.mk (blk_below (oB BK409.out) hb); have n5_ := Aside0.mk (below_step oL hb); clear BK409; clear HB; have HO413 := n0_; have HO416 := n1_; have HO425 := n2_; have HO428 := n3_; have BK409 := n4_; have HB := n5_; clear n0_ n1_ n2_ n3_ n4_ n5_; (try clear hb); (try clear hb2); (try clear hk); (try clear hi); (try clear ho0); (try clear ho1); (try clear ho2); (try clear ho3); obtain ⟨Ao20, co20, eo20⟩ := Kd.R_slice HO413.out; subst eo20; obtain ⟨Ao21, co21, eo21⟩ := Kd.R_slice HO416.out; subst eo21; obtain ⟨Ao22, co22, eo22⟩ := Kd.R_slice HO425.out; subst eo22; obtain ⟨Ao23, co23, eo23⟩ := Kd.R_slice HO428.out; subst eo23) | ((with_reducible refine gate_callee (f := 23) rfl ?_); refine goesL_ (some 14) rfl rfl Try.func23 (by kernel_rfl) rfl #[.agg #[.slice Ao20 t411.length co20, .slice Ao21 t414.length co21, .int .i64 t417, .int .i64 t418, .int .i64 t419, .int .i64 t420, .bool t421, .bool t422, .slice Ao22 t423.length co22, .slice Ao23 t426.length co23, .bool t429, .bool t430]] rfl (by (try simp only [List.map_toArray, List.map_cons, List.map_nil]); first | done | rfl | (simp only [List.length_drop, List.length_take]; rfl)) ?_; (with_reducible refine (spec_GoodCpu.calls k _ _ t411 _ _ t414 t417 t418 t419 t420 t421 t422 _ _ t423 _ _ t426 t429 t430 t431 _ ?side1 ?side2 ?side3 ?side4 ?side5 ?side6 ?side7 ?side8 A8.out).mono ?_); (case side1 => repeat (first | exact (Kd.R_reads' HO413.out).2.2 | (with_reducible refine Kd.C_alloc ?_ _) | (with_reducible refine Kd.C_drewN ?_ _) | (with_reducible refine Kd.C_drew ?_))); (case side2 => exact (Kd.R_reads' HO413.out).2.1); (case side3 => repeat (first | exact (Kd.R_reads' HO416.out).2.2 | (with_reducible refine Kd.C_alloc ?_ _) | (with_reducible refine Kd.C_drewN ?_ _) | (with_reducible refine Kd.C_drew ?_))); (case side4 => exact (Kd.R_reads' HO416.out).2.1); (case side5 => repeat (first | exact (Kd.R_reads' HO425.out).2.2 | (with_reducible refine Kd.C_alloc ?_ _) | (with_reducible refine Kd.C_drewN ?_ _) | (with_reducible refine Kd.C_drew ?_))); (case side6 => exact (Kd.R_reads' HO425.out).2.1); (case side7 => repeat (first | exact (Kd.R_reads' HO428.out).2.2 | (with_reducible refine Kd.C_alloc ?_ _) | (with_reducible refine Kd.C_drewN ?_ _) | (with_reducible refine Kd.C_drew ?_))); (case side8 => exact (Kd.R_reads' HO428.out).2.1); rintro e w24 ⟨rfl, hb⟩; refine ⟨_, rfl, ?_⟩; have n0_ := Aside0.mk (Kd.R_below (oR HO413.out) hb); have n1_ := Aside0.mk (Kd.R_below (oR HO416.out) hb); have n2_ := Aside0.mk (Kd.R_below (oR HO425.out) hb); have n3_ := Aside0.mk (Kd.R_below (oR HO428.out) hb); have n4_ := Aside0.mk (blk_below (oB BK409.out) hb); have n5_ := Aside0.mk (below_step oL hb); clear HO413; clear HO416; clear HO425; clear HO428; clear BK409; clear HB; have HO413 := n0_; have HO416 := n1_; have HO425 := n2_; have HO428 := n3_; have BK409 := n4_; have HB := n5_; clear n0_ n1_ n2_ n3_ n4_ n5_; (try clear hb); (try clear hb2); (try clear hk); (try clear hi); obtain ⟨hcz25_0, hcz25_1, hcz25_2, hcz25_3, hcz25_4, hcz25_5, hcz25_6, hcz25_7, hcz25_8, hcz25_9, hcz25_10, hcz25_11⟩ := cz12 BK409.out; obtain ⟨hfz25_0, hfz25_1, hfz25_2, hfz25_3, hfz25_4, hfz25_5, hfz25_6, hfz25_7, hfz25_8, hfz25_9, hfz25_10, hfz25_11⟩ := fz12 BK409.out) | ((with_reducible refine gate_callee (f := 20) rfl ?_); refine goesL_ (some 16) rfl rfl Try.func20 (by kernel_rfl) rfl #[.agg #[.slice A0_0 l0_0.length c0_0, .slice A0_1 l0_1.length c0_1, .int .i64 a0_2, .int .i64 a0_3, .int .i64 a0_4, .int .i64 a0_5, .bool a0_6, .bool a0_7, .slice A0_8 l0_8.length c0_8, .slice A0_9 l0_9.length c0_9, .bool a0_10, .bool a0_11]] rfl (by (try simp only [List.map_toArray, List.map_cons, List.map_nil]); first | done | rfl | (simp only [List.length_drop, List.length_take]; rfl)) ?_; (with_reducible refine (laws_toCpu.calls k _ _ l0_0 _ _ l0_1 a0_2 a0_3 a0_4 a0_5 a0_6 a0_7 _ _ l0_8 _ _ l0_9 a0_10 a0_11 t432 t435 t438 t439 t440 t441 t442 t443 t444 t447 t450 t451 _ ?side1 ?side2 ?side3 ?side4 ?side5 ?side6 ?side7 ?side8 A9.out).mono ?_); (case side1 => exact oC HR0_0.out); (case side2 => exact HC0_0.out); (case side3 => exact oC HR0_1.out); (case side4 => exact HC0_1.out); (case side5 => exact oC HR0_8.out); (case side6 => exact HC0_8.out); (case side7 => exact oC HR0_9.out); (case side8 => exact HC0_9.out); rintro e w26 ⟨v433, v436, v445, v448, rfl, ho0, ho1, ho2, ho3, hb⟩; refine ⟨_, rfl, ?_⟩; have n0_ := Aside0.mk (Kd.R_mono (Kd.R_told (Kd.R_told (Kd.R_told (Kd.R_old (oR HO413.out) hb) (Kd.R_base ho0)) (Kd.R_base ho1)) (Kd.R_base ho2)) (fun _ h_ => h_.1)); have n1_ := Aside0.mk (Kd.R_mono (Kd.R_told (Kd.R_told (Kd.R_told (Kd.R_old (oR HO416.out) hb) (Kd.R_base ho0)) (Kd.R_base ho1)) (Kd.R_base ho2)) (fun _ h_ => h_.1)); have n2_ := Aside0.mk (Kd.R_mono (Kd.R_told (Kd.R_told (Kd.R_told (Kd.R_old (oR HO425.out) hb) (Kd.R_base ho0)) (Kd.R_base ho1)) (Kd.R_base ho2)) (fun _ h_ => h_.1)); have n3_ := Aside0.mk (Kd.R_elder' (oR HO428.out) (Kd.R_base ho3) hb); have n4_ := Aside0.mk (Kd.R_lower (Kd.R_new' (Kd.R_new' (Kd.R_new' ho0 (Kd.R_lt (oR HO413.out))) (Kd.R_lt (oR HO416.out))) (Kd.R_lt (oR HO425.out))) (below_size oL)); have n5_ := Aside0.mk (Kd.R_lower (Kd.R_new' (Kd.R_new' (Kd.R_new' ho1 (Kd.R_lt (oR HO413.out))) (Kd.R_lt (oR HO416.out))) (Kd.R_lt (oR HO425.out))) (below_size oL)); have n6_ := Aside0.mk (Kd.R_lower (Kd.R_new' (Kd.R_new' (Kd.R_new' ho2 (Kd.R_lt (oR HO413.out))) (Kd.R_lt (oR HO416.out))) (Kd.R_lt (oR HO425.out))) (below_size oL)); have n7_ := Aside0.mk (Kd.R_lower (Kd.R_new' ho3 (Kd.R_lt (oR HO428.out))) (below_size oL)); have n8_ := Aside0.mk (blk_below (oB BK409.out) hb); have n9_ := Aside0.mk (below_step oL hb); clear HO413; clear HO416; clear HO425; clear HO428; clear BK409; clear HB; have HO413 := n0_; have HO416 := n1_; have HO425 := n2_; have HO428 := n3_; have HO434 := n4_; have HO437 := n5_; have HO446 := n6_; have HO449 := n7_; have BK409 := n8_; have HB := n9_; clear n0_ n1_ n2_ n3_ n4_ n5_ n6_ n7_ n8_ n9_; (try clear hb); (try clear hb2); (try clear hk); (try clear hi); (try clear ho0); (try clear ho1); (try clear ho2); (try clear ho3)) | ((with_reducible refine gate_dst (N := 5) rfl ?_); refine box_event ?hg (N := 5) ?hd (cs := #[.slice none 0 0, .slice none 0 0, .int .i64 0, .int .i64 0, .int .i64 0, .int .i64 0, .bool false, .bool false, .slice none 0 0, .slice none 0 0, .bool false, .bool false]) (t := 37) ?hr ?_; (case hd => rfl); (case hg => rfl); (case hr => first | (go_simp; done) | (go_simp; rfl)); intro gb452 hg w27 hbox hb; have n0_ := Aside0.mk (Kd.R_below (oR HO413.out) hb); have n1_ := Aside0.mk (Kd.R_below (oR HO416.out) hb); have n2_ := Aside0.mk (Kd.R_below (oR HO425.out) hb); have n3_ := Aside0.mk (Kd.R_below (oR HO428.out) hb); have n4_ := Aside0.mk (Kd.R_below (oR HO434.out) hb); have n5_ := Aside0.mk (Kd.R_below (oR HO437.out) hb); have n6_ := Aside0.mk (Kd.R_below (oR HO446.out) hb); have n7_ := Aside0.mk (Kd.R_below (oR HO449.out) hb); have n8_ := Aside0.mk (blk_below (oB BK409.out) hb); have n9_ := Aside0.mk (below_step oL hb); have n10_ := Aside0.mk (hbox); have n11_ := Aside0.mk ((oS hg oL : w.heap.size ≤ gb452)); have n12_ := Aside0.mk ((oS hg oL : w.heap.size ≤ gb452)); have n13_ := Aside0.mk ((oN hg (oB BK409.out) : gb409 ≠ gb452)); have n14_ := Aside0.mk ((oM hg (oB BK409.out) : gb452 ≠ gb409)); clear HO413; clear HO416; clear HO425; clear HO428; clear HO434; clear HO437; clear HO446; clear HO449; clear BK409; clear HB; have HO413 := n0_; have HO416 := n1_; have HO425 := n2_; have HO428 := n3_; have HO434 := n4_; have HO437 := n5_; have HO446 := n6_; have HO449 := n7_; have BK409 := n8_; have HB := n9_; have BK452 := n10_; have GW452 := n11_; have GE452 := n12_; have NB409_452 := n13_; have NB452_409 := n14_; clear n0_ n1_ n2_ n3_ n4_ n5_ n6_ n7_ n8_ n9_ n10_ n11_ n12_ n13_ n14_; clear hb hbox hg; obtain ⟨Ao28, co28, eo28⟩ := Kd.R_slice HO434.out; subst eo28; have hnb29 := NB452_409.out; have hnc29 := NB409_452.out; obtain ⟨hcz30_0, hcz30_1, hcz30_2, hcz30_3, hcz30_4, hcz30_5, hcz30_6, hcz30_7, hcz30_8, hcz30_9, hcz30_10, hcz30_11⟩ := cz12 BK452.out; obtain ⟨hfz30_0, hfz30_1, hfz30_2, hfz30_3, hfz30_4, hfz30_5, hfz30_6, hfz30_7, hfz30_8, hfz30_9, hfz30_10, hfz30_11⟩ := fz12 BK452.out; obtain ⟨Ao31, co31, eo31⟩ := Kd.R_slice HO437.out; subst eo31; obtain ⟨Ao32, co32, eo32⟩ := Kd.R_slice HO446.out; subst eo32; obtain ⟨Ao33, co33, eo33⟩ := Kd.R_slice HO449.out; subst eo33) | ((with_reducible refine gate_callee (f := 24) rfl ?_); refine goesL_ (some 18) rfl rfl Try.func24 (by kernel_rfl) rfl #[.agg #[.slice Ao28 t432.length co28, .slice Ao31 t435.length co31, .int .i64 t438, .int .i64 t439, .int .i64 t440, .int .i64 t441, .bool t442, .bool t443, .slice Ao32 t444.length co32, .slice Ao33 t447.length co33, .bool t450, .bool t451]] rfl (by (try simp only [List.map_toArray, List.map_cons, List.map_nil]); first | done | rfl | (simp only [List.length_drop, List.length_take]; rfl)) ?_; (with_reducible refine (impl_GoodCpu.calls k _ _ t432 _ _ t435 t438 t439 t440 t441 t442 t443 _ _ t444 _ _ t447 t450 t451 t453 _ ?side1 ?side2 ?side3 ?side4 ?side5 ?side6 ?side7 ?side8 A10.out).mono ?_); (case side1 => refine (Kd.R_reads' (e := 3) (base := w.heap.size) (ok := fun k_ => ((((some k_ ≠ (.slice Ao31 t435.length co31 : Value).ownBlock ∧ some k_ ≠ (.slice Ao32 t444.length co32 : Value).ownBlock) ∧ some k_ ≠ (.slice Ao20 t411.length co20 : Value).ownBlock) ∧ some k_ ≠ (.slice Ao21 t414.length co21 : Value).ownBlock) ∧ some k_ ≠ (.slice Ao22 t423.length co22 : Value).ownBlock)) (n := t432.length) (c := co28) ?_).2.2; exact (oF HO434.out BK452.out)); (case side2 => exact (Kd.R_reads' HO434.out).2.1); (case side3 => refine (Kd.R_reads' (e := 3) (base := w.heap.size) (ok := fun k_ => ((((some k_ ≠ (.slice Ao28 t432.length co28 : Value).ownBlock ∧ some k_ ≠ (.slice Ao32 t444.length co32 : Value).ownBlock) ∧ some k_ ≠ (.slice Ao20 t411.length co20 : Value).ownBlock) ∧ some k_ ≠ (.slice Ao21 t414.length co21 : Value).ownBlock) ∧ some k_ ≠ (.slice Ao22 t423.length co22 : Value).ownBlock)) (n := t435.length) (c := co31) ?_).2.2; exact (oF HO437.out BK452.out)); (case side4 => exact (Kd.R_reads' HO437.out).2.1); (case side5 => refine (Kd.R_reads' (e := 3) (base := w.heap.size) (ok := fun k_ => ((((some k_ ≠ (.slice Ao28 t432.length co28 : Value).ownBlock ∧ some k_ ≠ (.slice Ao31 t435.length co31 : Value).ownBlock) ∧ some k_ ≠ (.slice Ao20 t411.length co20 : Value).ownBlock) ∧ some k_ ≠ (.slice Ao21 t414.length co21 : Value).ownBlock) ∧ some k_ ≠ (.slice Ao22 t423.length co22 : Value).ownBlock)) (n := t444.length) (c := co32) ?_).2.2; exact (oF HO446.out BK452.out)); (case side6 => exact (Kd.R_reads' HO446.out).2.1); (case side7 => refine (Kd.R_reads' (e := 100) (base := w.heap.size) (ok := fun k_ => (True ∧ some k_ ≠ (.slice Ao23 t426.length co23 : Value).ownBlock)) (n := t447.length) (c := co33) ?_).2.2; exact (oF HO449.out BK452.out)); (case side8 => exact (Kd.R_reads' HO449.out).2.1); rintro e w34 ⟨rfl, hb⟩; refine ⟨_, rfl, ?_⟩; have n0_ := Aside0.mk (Kd.R_below (oF HO413.out BK452.out) hb); have n1_ := Aside0.mk (Kd.R_below (oF HO416.out BK452.out) hb); have n2_ := Aside0.mk (Kd.R_below (oF HO425.out BK452.out) hb); have n3_ := Aside0.mk (Kd.R_below (oF HO428.out BK452.out) hb); have n4_ := Aside0.mk (Kd.R_below (oF HO434.out BK452.out) hb); have n5_ := Aside0.mk (Kd.R_below (oF HO437.out BK452.out) hb); have n6_ := Aside0.mk (Kd.R_below (oF HO446.out BK452.out) hb); have n7_ := Aside0.mk (Kd.R_below (oF HO449.out BK452.out) hb); have n8_ := Aside0.mk (blk_below (oG BK409.out NB409_452.out) hb); have n9_ := Aside0.mk (blk_below (g := gb452) (o := .cells #[.slice Ao28 t432.length co28, .slice Ao31 t435.length co31, .int .i64 t438, .int .i64 t439, .int .i64 t440, .int .i64 t441, .bool t442, .bool t443, .slice Ao32 t444.length co32, .slice Ao33 t447.length co33, .bool t450, .bool t451] 37 (0, 0)) (oP BK452.out) hb); have n10_ := Aside0.mk (below_step oL hb); clear HO413; clear HO416; clear HO425; clear HO428; clear HO434; clear HO437; clear HO446; clear HO449; clear BK409; clear BK452; clear HB; have HO413 := n0_; have HO416 := n1_; have HO425 := n2_; have HO428 := n3_; have HO434 := n4_; have HO437 := n5_; have HO446 := n6_; have HO449 := n7_; have BK409 := n8_; have BK452 := n9_; have HB := n10_; clear n0_ n1_ n2_ n3_ n4_ n5_ n6_ n7_ n8_ n9_ n10_; (try clear hb); (try clear hb2); (try clear hk); (try clear hi)))
        have n0_ := Aside0.mk (Kd.R_drew HO413.out)
        have n1_ := Aside0.mk (Kd.R_drew HO416.out)
        have n2_ := Aside0.mk (Kd.R_drew HO425.out)
        have n3_ := Aside0.mk (Kd.R_drew HO428.out)
        have n4_ := Aside0.mk (Kd.R_drew HO434.out)
        have n5_ := Aside0.mk (Kd.R_drew HO437.out)
        have n6_ := Aside0.mk (Kd.R_drew HO446.out)
        have n7_ := Aside0.mk (Kd.R_drew HO449.out)
        have n8_ := Aside0.mk (blk_drew BK409.out)
        have n9_ := Aside0.mk (blk_drew BK452.out)
        have n10_ := Aside0.mk (below_drew1 HB.out)
        clear HO413
        clear HO416
        clear HO425
        clear HO428
        clear HO434
        clear HO437
        clear HO446
        clear HO449
        clear BK409
        clear BK452
        clear HB
        have HO413 := n0_
        have HO416 := n1_
        have HO425 := n2_
        have HO428 := n3_
        have HO434 := n4_
        have HO437 := n5_
        have HO446 := n6_
        have HO449 := n7_
        have BK409 := n8_
        have BK452 := n9_
        have HB := n10_
        clear n0_ n1_ n2_ n3_ n4_ n5_ n6_ n7_ n8_ n9_ n10_
        refine start_ (n := 5) (S := fun w' => w'.cell? ⟨gb452, 0, none⟩ = some (.slice Ao28 t432.length co28) ∧ w'.cell? ⟨gb452, 1, none⟩ = some (.slice Ao31 t435.length co31) ∧ w'.cell? ⟨gb452, 2, none⟩ = some (.int .i64 t438) ∧ w'.cell? ⟨gb452, 3, none⟩ = some (.int .i64 t439) ∧ w'.cell? ⟨gb452, 4, none⟩ = some (.int .i64 t440) ∧ w'.cell? ⟨gb452, 5, none⟩ = some (.int .i64 t441) ∧ w'.cell? ⟨gb452, 6, none⟩ = some (.bool t442) ∧ w'.cell? ⟨gb452, 7, none⟩ = some (.bool t443) ∧ w'.cell? ⟨gb452, 8, none⟩ = some (.slice Ao32 t444.length co32) ∧ w'.cell? ⟨gb452, 9, none⟩ = some (.slice Ao33 t447.length co33) ∧ w'.cell? ⟨gb452, 10, none⟩ = some (.bool t450) ∧ w'.cell? ⟨gb452, 11, none⟩ = some (.bool t451) ∧ w'.cell? ⟨gb409, 0, none⟩ = some (.slice A0_0 l0_0.length c0_0) ∧ w'.cell? ⟨gb409, 1, none⟩ = some (.slice A0_1 l0_1.length c0_1) ∧ w'.cell? ⟨gb409, 2, none⟩ = some (.int .i64 a0_2) ∧ w'.cell? ⟨gb409, 3, none⟩ = some (.int .i64 a0_3) ∧ w'.cell? ⟨gb409, 4, none⟩ = some (.int .i64 a0_4) ∧ w'.cell? ⟨gb409, 5, none⟩ = some (.int .i64 a0_5) ∧ w'.cell? ⟨gb409, 6, none⟩ = some (.bool a0_6) ∧ w'.cell? ⟨gb409, 7, none⟩ = some (.bool a0_7) ∧ w'.cell? ⟨gb409, 8, none⟩ = some (.slice A0_8 l0_8.length c0_8) ∧ w'.cell? ⟨gb409, 9, none⟩ = some (.slice A0_9 l0_9.length c0_9) ∧ w'.cell? ⟨gb409, 10, none⟩ = some (.bool a0_10) ∧ w'.cell? ⟨gb409, 11, none⟩ = some (.bool a0_11)) (ds := []) #[false, false, false, false, false] (by kernel_rfl) rfl rfl ⟨(blk_cell BK452.out 0).trans rfl, (blk_cell BK452.out 1).trans rfl, (blk_cell BK452.out 2).trans rfl, (blk_cell BK452.out 3).trans rfl, (blk_cell BK452.out 4).trans rfl, (blk_cell BK452.out 5).trans rfl, (blk_cell BK452.out 6).trans rfl, (blk_cell BK452.out 7).trans rfl, (blk_cell BK452.out 8).trans rfl, (blk_cell BK452.out 9).trans rfl, (blk_cell BK452.out 10).trans rfl, (blk_cell BK452.out 11).trans rfl, (blk_cell BK409.out 0).trans rfl, (blk_cell BK409.out 1).trans rfl, (blk_cell BK409.out 2).trans rfl, (blk_cell BK409.out 3).trans rfl, (blk_cell BK409.out 4).trans rfl, (blk_cell BK409.out 5).trans rfl, (blk_cell BK409.out 6).trans rfl, (blk_cell BK409.out 7).trans rfl, (blk_cell BK409.out 8).trans rfl, (blk_cell BK409.out 9).trans rfl, (blk_cell BK409.out 10).trans rfl, (blk_cell BK409.out 11).trans rfl⟩ (fun hHeld => ?_)
        generalize w34.drew = w35 at HO413 HO416 HO425 HO428 HO434 HO437 HO446 HO449 BK409 BK452 HB hHeld ⊢
        refine take_ (i := 0) (N := some 22) (v := ?_) (a' := ?_) #[true, false, false, false, false] rfl rfl (by kernel_rfl) (fun _ _ _ h => h) (Or.inl ⟨by rfl, ?_⟩) hHeld ?_ ?_
        rotate_left
        · rintro w' ⟨s0, s1, s2, s3, s4, s5, s6, s7, s8, s9, s10, s11, s12, s13, s14, s15, s16, s17, s18, s19, s20, s21, s22, s23⟩
          go_simp
          with_reducible rfl
        rotate_left
        · simp only [Act.put, List.setIfInBounds_toArray, List.set_cons_zero, List.set_cons_succ, i64_w, i32_w]
          rfl
        refine take_ (i := 1) (N := some 23) (v := ?_) (a' := ?_) #[true, true, false, false, false] rfl rfl (by kernel_rfl) (fun _ _ _ h => h) (Or.inl ⟨by rfl, ?_⟩) hHeld ?_ ?_
        rotate_left
        · rintro w' ⟨s0, s1, s2, s3, s4, s5, s6, s7, s8, s9, s10, s11, s12, s13, s14, s15, s16, s17, s18, s19, s20, s21, s22, s23⟩
          go_simp
          with_reducible rfl
        rotate_left
        · simp only [Act.put, List.setIfInBounds_toArray, List.set_cons_zero, List.set_cons_succ, i64_w, i32_w]
          rfl
        refine one_ (i := 2) (N := some 24) #[true, true, true, false, false] rfl rfl (by kernel_rfl) (by decide) (fun K hK => ?_)
        refine goes_ Try.func20 (by kernel_rfl) rfl #[.agg #[.slice A0_0 l0_0.length c0_0, .slice A0_1 l0_1.length c0_1, .int .i64 a0_2, .int .i64 a0_3, .int .i64 a0_4, .int .i64 a0_5, .bool a0_6, .bool a0_7, .slice A0_8 l0_8.length c0_8, .slice A0_9 l0_9.length c0_9, .bool a0_10, .bool a0_11]] (by rfl) rfl rfl (by (try simp only [List.map_toArray, List.map_cons, List.map_nil]); first | done | rfl | (simp only [List.length_drop, List.length_take]; rfl)) ?_
        with_reducible refine (laws_toCpu.calls k _ _ l0_0 _ _ l0_1 a0_2 a0_3 a0_4 a0_5 a0_6 a0_7 _ _ l0_8 _ _ l0_9 a0_10 a0_11 t454 t457 t460 t461 t462 t463 t464 t465 t466 t469 t472 t473 _ ?side1 ?side2 ?side3 ?side4 ?side5 ?side6 ?side7 ?side8 A12.out).mono ?_
        (case side1 => exact oC HR0_0.out)
        (case side2 => exact HC0_0.out)
        (case side3 => exact oC HR0_1.out)
        (case side4 => exact HC0_1.out)
        (case side5 => exact oC HR0_8.out)
        (case side6 => exact HC0_8.out)
        (case side7 => exact oC HR0_9.out)
        (case side8 => exact HC0_9.out)
        rintro e w36 ⟨v455, v458, v467, v470, rfl, ho0, ho1, ho2, ho3, hb⟩
        refine ⟨_, rfl, ?_⟩
        have n0_ := Aside0.mk (Kd.R_mono (Kd.R_told (Kd.R_told (Kd.R_told (Kd.R_old (oR HO413.out) hb) (Kd.R_base ho0)) (Kd.R_base ho1)) (Kd.R_base ho2)) (fun _ h_ => h_.1))
        have n1_ := Aside0.mk (Kd.R_mono (Kd.R_told (Kd.R_told (Kd.R_told (Kd.R_old (oR HO416.out) hb) (Kd.R_base ho0)) (Kd.R_base ho1)) (Kd.R_base ho2)) (fun _ h_ => h_.1))
        have n2_ := Aside0.mk (Kd.R_mono (Kd.R_told (Kd.R_told (Kd.R_told (Kd.R_old (oR HO425.out) hb) (Kd.R_base ho0)) (Kd.R_base ho1)) (Kd.R_base ho2)) (fun _ h_ => h_.1))
        have n3_ := Aside0.mk (Kd.R_elder' (oR HO428.out) (Kd.R_base ho3) hb)
        have n4_ := Aside0.mk (Kd.R_mono (Kd.R_told (Kd.R_told (Kd.R_told (Kd.R_old (oR HO434.out) hb) (Kd.R_base ho0)) (Kd.R_base ho1)) (Kd.R_base ho2)) (fun _ h_ => h_.1))
        have n5_ := Aside0.mk (Kd.R_mono (Kd.R_told (Kd.R_told (Kd.R_told (Kd.R_old (oR HO437.out) hb) (Kd.R_base ho0)) (Kd.R_base ho1)) (Kd.R_base ho2)) (fun _ h_ => h_.1))
        have n6_ := Aside0.mk (Kd.R_mono (Kd.R_told (Kd.R_told (Kd.R_told (Kd.R_old (oR HO446.out) hb) (Kd.R_base ho0)) (Kd.R_base ho1)) (Kd.R_base ho2)) (fun _ h_ => h_.1))
        have n7_ := Aside0.mk (Kd.R_elder' (oR HO449.out) (Kd.R_base ho3) hb)
        have n8_ := Aside0.mk (Kd.R_lower (Kd.R_new' (Kd.R_new' (Kd.R_new' (Kd.R_new' (Kd.R_new' (Kd.R_new' ho0 (Kd.R_lt (oR HO413.out))) (Kd.R_lt (oR HO416.out))) (Kd.R_lt (oR HO425.out))) (Kd.R_lt (oR HO434.out))) (Kd.R_lt (oR HO437.out))) (Kd.R_lt (oR HO446.out))) (below_size oL))
        have n9_ := Aside0.mk (Kd.R_lower (Kd.R_new' (Kd.R_new' (Kd.R_new' (Kd.R_new' (Kd.R_new' (Kd.R_new' ho1 (Kd.R_lt (oR HO413.out))) (Kd.R_lt (oR HO416.out))) (Kd.R_lt (oR HO425.out))) (Kd.R_lt (oR HO434.out))) (Kd.R_lt (oR HO437.out))) (Kd.R_lt (oR HO446.out))) (below_size oL))
        have n10_ := Aside0.mk (Kd.R_lower (Kd.R_new' (Kd.R_new' (Kd.R_new' (Kd.R_new' (Kd.R_new' (Kd.R_new' ho2 (Kd.R_lt (oR HO413.out))) (Kd.R_lt (oR HO416.out))) (Kd.R_lt (oR HO425.out))) (Kd.R_lt (oR HO434.out))) (Kd.R_lt (oR HO437.out))) (Kd.R_lt (oR HO446.out))) (below_size oL))
        have n11_ := Aside0.mk (Kd.R_lower (Kd.R_new' (Kd.R_new' ho3 (Kd.R_lt (oR HO428.out))) (Kd.R_lt (oR HO449.out))) (below_size oL))
        have n12_ := Aside0.mk (blk_below (oB BK409.out) hb)
        have n13_ := Aside0.mk (blk_below (oB BK452.out) hb)
        have n14_ := Aside0.mk (below_step oL hb)
        clear HO413
        clear HO416
        clear HO425
        clear HO428
        clear HO434
        clear HO437
        clear HO446
        clear HO449
        clear BK409
        clear BK452
        clear HB
        have HO413 := n0_
        have HO416 := n1_
        have HO425 := n2_
        have HO428 := n3_
        have HO434 := n4_
        have HO437 := n5_
        have HO446 := n6_
        have HO449 := n7_
        have HO456 := n8_
        have HO459 := n9_
        have HO468 := n10_
        have HO471 := n11_
        have BK409 := n12_
        have BK452 := n13_
        have HB := n14_
        clear n0_ n1_ n2_ n3_ n4_ n5_ n6_ n7_ n8_ n9_ n10_ n11_ n12_ n13_ n14_
        (try clear hb)
        (try clear hb2)
        (try clear hk)
        (try clear hi)
        (try clear ho0)
        (try clear ho1)
        (try clear ho2)
        (try clear ho3)
        obtain ⟨Ao37, co37, eo37⟩ := Kd.R_slice HO456.out
        (first | subst eo37 | (injection eo37 with f1_ f2_ f3_; have f4_ := f1_.symm; have f5_ := f3_.symm; clear f1_ f2_ f3_; subst f4_; subst f5_))
        obtain ⟨Ao38, co38, eo38⟩ := Kd.R_slice HO459.out
        (first | subst eo38 | (injection eo38 with f1_ f2_ f3_; have f4_ := f1_.symm; have f5_ := f3_.symm; clear f1_ f2_ f3_; subst f4_; subst f5_))
        obtain ⟨Ao39, co39, eo39⟩ := Kd.R_slice HO468.out
        (first | subst eo39 | (injection eo39 with f1_ f2_ f3_; have f4_ := f1_.symm; have f5_ := f3_.symm; clear f1_ f2_ f3_; subst f4_; subst f5_))
        obtain ⟨Ao40, co40, eo40⟩ := Kd.R_slice HO471.out
        (first | subst eo40 | (injection eo40 with f1_ f2_ f3_; have f4_ := f1_.symm; have f5_ := f3_.symm; clear f1_ f2_ f3_; subst f4_; subst f5_))
        refine hK.out _ _ (czc12 BK452.out (cz12 BK409.out)) (fun hHeld => ?_)
        clear hK K
        refine norm_ (a' := ?_) ?_ ?_
        rotate_left
        · show Act.put _ (some 24) _ = _
          simp only [Act.put, List.setIfInBounds_toArray, List.set_cons_zero, List.set_cons_succ, i64_w, i32_w]
          rfl
        refine one_ (i := 3) (N := some 25) #[true, true, true, true, false] rfl rfl (by kernel_rfl) (by decide) (fun K hK => ?_)
        refine goes_ Try.func22 (by kernel_rfl) rfl #[.agg #[.slice Ao28 t432.length co28, .slice Ao31 t435.length co31, .int .i64 t438, .int .i64 t439, .int .i64 t440, .int .i64 t441, .bool t442, .bool t443, .slice Ao32 t444.length co32, .slice Ao33 t447.length co33, .bool t450, .bool t451], .agg #[.slice Ao37 t454.length co37, .slice Ao38 t457.length co38, .int .i64 t460, .int .i64 t461, .int .i64 t462, .int .i64 t463, .bool t464, .bool t465, .slice Ao39 t466.length co39, .slice Ao40 t469.length co40, .bool t472, .bool t473]] (by rfl) rfl rfl (by (try simp only [List.map_toArray, List.map_cons, List.map_nil]); first | done | rfl | (simp only [List.length_drop, List.length_take]; rfl)) ?_
        with_reducible refine (laws_eqCpu.calls k _ _ t432 _ _ t435 t438 t439 t440 t441 t442 t443 _ _ t444 _ _ t447 t450 t451 _ _ t454 _ _ t457 t460 t461 t462 t463 t464 t465 _ _ t466 _ _ t469 t472 t473 true _ ?side1 ?side2 ?side3 ?side4 ?side5 ?side6 ?side7 ?side8 ?side9 ?side10 ?side11 ?side12 ?side13 ?side14 ?side15 ?side16 A13.out).mono ?_
        (case side1 => repeat (first | exact (Kd.R_reads' HO434.out).2.2 | (with_reducible refine Kd.C_alloc ?_ _) | (with_reducible refine Kd.C_drewN ?_ _) | (with_reducible refine Kd.C_drew ?_)))
        (case side2 => exact (Kd.R_reads' HO434.out).2.1)
        (case side3 => repeat (first | exact (Kd.R_reads' HO437.out).2.2 | (with_reducible refine Kd.C_alloc ?_ _) | (with_reducible refine Kd.C_drewN ?_ _) | (with_reducible refine Kd.C_drew ?_)))
        (case side4 => exact (Kd.R_reads' HO437.out).2.1)
        (case side5 => repeat (first | exact (Kd.R_reads' HO446.out).2.2 | (with_reducible refine Kd.C_alloc ?_ _) | (with_reducible refine Kd.C_drewN ?_ _) | (with_reducible refine Kd.C_drew ?_)))
        (case side6 => exact (Kd.R_reads' HO446.out).2.1)
        (case side7 => repeat (first | exact (Kd.R_reads' HO449.out).2.2 | (with_reducible refine Kd.C_alloc ?_ _) | (with_reducible refine Kd.C_drewN ?_ _) | (with_reducible refine Kd.C_drew ?_)))
        (case side8 => exact (Kd.R_reads' HO449.out).2.1)
        (case side9 => repeat (first | exact (Kd.R_reads' HO456.out).2.2 | (with_reducible refine Kd.C_alloc ?_ _) | (with_reducible refine Kd.C_drewN ?_ _) | (with_reducible refine Kd.C_drew ?_)))
        (case side10 => exact (Kd.R_reads' HO456.out).2.1)
        (case side11 => repeat (first | exact (Kd.R_reads' HO459.out).2.2 | (with_reducible refine Kd.C_alloc ?_ _) | (with_reducible refine Kd.C_drewN ?_ _) | (with_reducible refine Kd.C_drew ?_)))
        (case side12 => exact (Kd.R_reads' HO459.out).2.1)
        (case side13 => repeat (first | exact (Kd.R_reads' HO468.out).2.2 | (with_reducible refine Kd.C_alloc ?_ _) | (with_reducible refine Kd.C_drewN ?_ _) | (with_reducible refine Kd.C_drew ?_)))
        (case side14 => exact (Kd.R_reads' HO468.out).2.1)
        (case side15 => repeat (first | exact (Kd.R_reads' HO471.out).2.2 | (with_reducible refine Kd.C_alloc ?_ _) | (with_reducible refine Kd.C_drewN ?_ _) | (with_reducible refine Kd.C_drew ?_)))
        (case side16 => exact (Kd.R_reads' HO471.out).2.1)
        rintro e w41 ⟨rfl, hb⟩
        refine ⟨_, rfl, ?_⟩
        have n0_ := Aside0.mk (Kd.R_below (oR HO413.out) hb)
        have n1_ := Aside0.mk (Kd.R_below (oR HO416.out) hb)
        have n2_ := Aside0.mk (Kd.R_below (oR HO425.out) hb)
        have n3_ := Aside0.mk (Kd.R_below (oR HO428.out) hb)
        have n4_ := Aside0.mk (Kd.R_below (oR HO434.out) hb)
        have n5_ := Aside0.mk (Kd.R_below (oR HO437.out) hb)
        have n6_ := Aside0.mk (Kd.R_below (oR HO446.out) hb)
        have n7_ := Aside0.mk (Kd.R_below (oR HO449.out) hb)
        have n8_ := Aside0.mk (Kd.R_below (oR HO456.out) hb)
        have n9_ := Aside0.mk (Kd.R_below (oR HO459.out) hb)
        have n10_ := Aside0.mk (Kd.R_below (oR HO468.out) hb)
        have n11_ := Aside0.mk (Kd.R_below (oR HO471.out) hb)
        have n12_ := Aside0.mk (blk_below (oB BK409.out) hb)
        have n13_ := Aside0.mk (blk_below (oB BK452.out) hb)
        have n14_ := Aside0.mk (below_step oL hb)
        clear HO413
        clear HO416
        clear HO425
        clear HO428
        clear HO434
        clear HO437
        clear HO446
        clear HO449
        clear HO456
        clear HO459
        clear HO468
        clear HO471
        clear BK409
        clear BK452
        clear HB
        have HO413 := n0_
        have HO416 := n1_
        have HO425 := n2_
        have HO428 := n3_
        have HO434 := n4_
        have HO437 := n5_
        have HO446 := n6_
        have HO449 := n7_
        have HO456 := n8_
        have HO459 := n9_
        have HO468 := n10_
        have HO471 := n11_
        have BK409 := n12_
        have BK452 := n13_
        have HB := n14_
        clear n0_ n1_ n2_ n3_ n4_ n5_ n6_ n7_ n8_ n9_ n10_ n11_ n12_ n13_ n14_
        (try clear hb)
        (try clear hb2)
        (try clear hk)
        (try clear hi)
        refine hK.out _ _ (czc12 BK452.out (cz12 BK409.out)) (fun hHeld => ?_)
        clear hK K
        refine norm_ (a' := ?_) ?_ ?_
        rotate_left
        · show Act.put _ (some 25) _ = _
          simp only [Act.put, List.setIfInBounds_toArray, List.set_cons_zero, List.set_cons_succ, i64_w, i32_w]
          rfl
        refine pure_ (i := 4) (N := some 26) (v := ?_) (a' := ?_) #[true, true, true, true, true] rfl rfl (by kernel_rfl) (fun _ _ _ h => h) (Or.inl ⟨by rfl, ?_⟩) ?_ ?_
        rotate_left
        · intro w'
          go_simp
          with_reducible rfl
        rotate_left
        · simp only [Act.put, List.setIfInBounds_toArray, List.set_cons_zero, List.set_cons_succ, i64_w, i32_w]
          rfl
        refine done_ (by kernel_rfl) ?_
        try go_wp2
        go_ret
        exact ⟨by first | rfl | (simp [errW_none, errW_some] <;> rfl) | (simp [*, errW_none, errW_some] <;> rfl), by repeat (first | (with_reducible first | exact HB.out | apply below_alloc | apply pw_below_drewN | apply below_drew1 | refine below_set ?_ GE409.out | refine below_set ?_ GE452.out) | exact HB.out)⟩
      · replace c14 := Bool.eq_false_iff.mpr c14
        subst c14
        have H1 : (some false) = some r := by rw [if_neg (show ¬ (false = true) by decide)] at H; exact H
        clear H
        have H := H1
        clear H1
        exact absurd H (by rw [hr_.out]; simp)

end Go.Proofs.Ytblgjbhkndfjhaa.H
