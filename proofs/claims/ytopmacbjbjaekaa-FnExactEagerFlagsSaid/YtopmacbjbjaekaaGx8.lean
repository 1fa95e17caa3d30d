-- Made by this session's program gprint.py out of the translation. Not trusted: Lean checks it.
import Derived.Test.YtopmacbjbjaekaaGx0
import Derived.Test.YtopmacbjbjaekaaGx4
import Derived.Test.YtopmacbjbjaekaaGx7
namespace Go.Proofs.Ytopmacbjbjaekaa.G
open Go.RowKit Go.Proofs.YtopmacbjbjaekaaW.PrintWords Go.Proofs.YtopmacbjbjaekaaW.PrintLast Go.Proofs.YtopmacbjbjaekaaW.PrintMore
attribute [local go_sem] max2_int min2_int max_two min_two max_three min_three max_four min_four   -- for this text's walks alone
set_option linter.unusedVariables false
set_option linter.unusedSimpArgs false

/-! ### impl_signs: function 140 -/
def impl_signs.f (a0 : Int) (a1 : Int) : Option (Int) := (impl_flag.f (a1 == 0) 4).bind fun t268 => ((impl_limitOf.f a0).bind fun t269 => ((impl_flag.f (decide (a1 ≥ (wrap64 (Int.tdiv t269 2)))) 8).bind fun t270 => (some (Go.bits .or .i64 t268 t270))))
set_option maxHeartbeats 8000000 in
set_option maxRecDepth 100000 in
theorem impl_signs.calls (a0 : Int) (a1 : Int) (r : Int) (w : World) (h : impl_signs.f a0 a1 = some r) :
    Calls Try.prog 140 #[.int .i64 a0, .int .i64 a1] w fun e w' => e = .returned (.int .i64 r) ∧ Drawn0 w w' := by
  have H : ((impl_flag.f (a1 == 0) 4).bind fun t268 => ((impl_limitOf.f a0).bind fun t269 => ((impl_flag.f (decide (a1 ≥ (wrap64 (Int.tdiv t269 2)))) 8).bind fun t270 => (some (Go.bits .or .i64 t268 t270))))) = some r := h
  clear h
  replace H := Option.bind_eq_some_iff.mp H
  obtain ⟨t268, A30, H⟩ := H
  replace H : ((impl_limitOf.f a0).bind fun t269 => ((impl_flag.f (decide (a1 ≥ (wrap64 (Int.tdiv t269 2)))) 8).bind fun t270 => (some (Go.bits .or .i64 t268 t270)))) = some r := H
  have A3 := Aside0.mk A30
  clear A30
  replace H := Option.bind_eq_some_iff.mp H
  obtain ⟨t269, A40, H⟩ := H
  replace H : ((impl_flag.f (decide (a1 ≥ (wrap64 (Int.tdiv t269 2)))) 8).bind fun t270 => (some (Go.bits .or .i64 t268 t270))) = some r := H
  have A4 := Aside0.mk A40
  clear A40
  replace H := Option.bind_eq_some_iff.mp H
  obtain ⟨t270, A50, H⟩ := H
  replace H : (some (Go.bits .or .i64 t268 t270)) = some r := H
  have A5 := Aside0.mk A50
  clear A50
  obtain rfl := Option.some.inj H
  go_enter Try.func140, Try.ntmps140
  go_wp2_with (first | ((with_reducible refine gate_callee (f := 95) rfl ?_); refine goesL_ (some 7) rfl rfl Try.func95 (by kernel_rfl) rfl #[.bool (a1 == 0), .int .i64 4] rfl (by (try simp only [List.map_toArray, List.map_cons, List.map_nil]); first | done | rfl | (simp only [List.length_drop, List.length_take]; rfl)) ?_; (with_reducible refine (impl_flag.calls (a1 == 0) 4 t268 _ A3.out).mono ?_); rintro e w' ⟨rfl, ⟨nd, rfl⟩⟩; refine ⟨_, rfl, ?_⟩) | ((with_reducible refine gate_callee (f := 143) rfl ?_); refine goesL_ (some 10) rfl rfl Try.func143 (by kernel_rfl) rfl #[.int .i64 a0] rfl (by (try simp only [List.map_toArray, List.map_cons, List.map_nil]); first | done | rfl | (simp only [List.length_drop, List.length_take]; rfl)) ?_; (with_reducible refine (impl_limitOf.calls a0 t269 _ A4.out).mono ?_); rintro e w' ⟨rfl, ⟨nd, rfl⟩⟩; refine ⟨_, rfl, ?_⟩) | ((with_reducible refine gate_callee (f := 95) rfl ?_); refine goesL_ (some 13) rfl rfl Try.func95 (by kernel_rfl) rfl #[.bool (decide (a1 ≥ (wrap64 (Int.tdiv t269 2)))), .int .i64 8] rfl (by (try simp only [List.map_toArray, List.map_cons, List.map_nil]); first | done | rfl | (simp only [List.length_drop, List.length_take]; rfl)) ?_; (with_reducible refine (impl_flag.calls (decide (a1 ≥ (wrap64 (Int.tdiv t269 2)))) 8 t270 _ A5.out).mono ?_); rintro e w' ⟨rfl, ⟨nd, rfl⟩⟩; refine ⟨_, rfl, ?_⟩))
  go_ret
  exact ⟨by first | rfl | (simp; done) | (simp [*]; done), by repeat (first | exact Drawn0.refl _ | apply Drawn0.step)⟩

/-! ### impl_reckoned: function 138 -/
def impl_reckoned.f (a0 : Int) (a1 : Int) (a2 : Int) : Option (Int × Int) := (impl_limitOf.f a0).bind fun t271 => ((impl_signedOf.f a0 (Go.bits .and .i64 a1 (wrap64 (t271 - 1)))).bind fun t272 => ((impl_flag.f (a1 != (Go.bits .and .i64 a1 (wrap64 (t271 - 1)))) 17).bind fun t273 => ((impl_flag.f (a2 != t272) 2).bind fun t274 => ((impl_signs.f a0 (Go.bits .and .i64 a1 (wrap64 (t271 - 1)))).bind fun t275 => (some (Go.bits .and .i64 a1 (wrap64 (t271 - 1)), Go.bits .or .i64 (Go.bits .or .i64 t273 t274) t275))))))
set_option maxHeartbeats 8000000 in
set_option maxRecDepth 100000 in
theorem impl_reckoned.calls (a0 : Int) (a1 : Int) (a2 : Int) (r1 : Int) (r2 : Int) (w : World) (h : impl_reckoned.f a0 a1 a2 = some (r1, r2)) :
    Calls Try.prog 138 #[.int .i64 a0, .int .i64 a1, .int .i64 a2] w fun e w' => e = .returned (.tuple #[.int .i64 r1, .int .i64 r2]) ∧ Drawn0 w w' := by
  have H : ((impl_limitOf.f a0).bind fun t271 => ((impl_signedOf.f a0 (Go.bits .and .i64 a1 (wrap64 (t271 - 1)))).bind fun t272 => ((impl_flag.f (a1 != (Go.bits .and .i64 a1 (wrap64 (t271 - 1)))) 17).bind fun t273 => ((impl_flag.f (a2 != t272) 2).bind fun t274 => ((impl_signs.f a0 (Go.bits .and .i64 a1 (wrap64 (t271 - 1)))).bind fun t275 => (some (Go.bits .and .i64 a1 (wrap64 (t271 - 1)), Go.bits .or .i64 (Go.bits .or .i64 t273 t274) t275))))))) = some (r1, r2) := h
  clear h
  replace H := Option.bind_eq_some_iff.mp H
  obtain ⟨t271, A40, H⟩ := H
  replace H : ((impl_signedOf.f a0 (Go.bits .and .i64 a1 (wrap64 (t271 - 1)))).bind fun t272 => ((impl_flag.f (a1 != (Go.bits .and .i64 a1 (wrap64 (t271 - 1)))) 17).bind fun t273 => ((impl_flag.f (a2 != t272) 2).bind fun t274 => ((impl_signs.f a0 (Go.bits .and .i64 a1 (wrap64 (t271 - 1)))).bind fun t275 => (some (Go.bits .and .i64 a1 (wrap64 (t271 - 1)), Go.bits .or .i64 (Go.bits .or .i64 t273 t274) t275)))))) = some (r1, r2) := H
  have A4 := Aside0.mk A40
  clear A40
  replace H := Option.bind_eq_some_iff.mp H
  obtain ⟨t272, A50, H⟩ := H
  replace H : ((impl_flag.f (a1 != (Go.bits .and .i64 a1 (wrap64 (t271 - 1)))) 17).bind fun t273 => ((impl_flag.f (a2 != t272) 2).bind fun t274 => ((impl_signs.f a0 (Go.bits .and .i64 a1 (wrap64 (t271 - 1)))).bind fun t275 => (some (Go.bits .and .i64 a1 (wrap64 (t271 - 1)), Go.bits .or .i64 (Go.bits .or .i64 t273 t274) t275))))) = some (r1, r2) := H
  have A5 := Aside0.mk A50
  clear A50
  replace H := Option.bind_eq_some_iff.mp H
  obtain ⟨t273, A60, H⟩ := H
  replace H : ((impl_flag.f (a2 != t272) 2).bind fun t274 => ((impl_signs.f a0 (Go.bits .and .i64 a1 (wrap64 (t271 - 1)))).bind fun t275 => (some (Go.bits .and .i64 a1 (wrap64 (t271 - 1)), Go.bits .or .i64 (Go.bits .or .i64 t273 t274) t275)))) = some (r1, r2) := H
  have A6 := Aside0.mk A60
  clear A60
  replace H := Option.bind_eq_some_iff.mp H
  obtain ⟨t274, A70, H⟩ := H
  replace H : ((impl_signs.f a0 (Go.bits .and .i64 a1 (wrap64 (t271 - 1)))).bind fun t275 => (some (Go.bits .and .i64 a1 (wrap64 (t271 - 1)), Go.bits .or .i64 (Go.bits .or .i64 t273 t274) t275))) = some (r1, r2) := H
  have A7 := Aside0.mk A70
  clear A70
  replace H := Option.bind_eq_some_iff.mp H
  obtain ⟨t275, A80, H⟩ := H
  replace H : (some (Go.bits .and .i64 a1 (wrap64 (t271 - 1)), Go.bits .or .i64 (Go.bits .or .i64 t273 t274) t275)) = some (r1, r2) := H
  have A8 := Aside0.mk A80
  clear A80
  simp only [Option.some.injEq, Prod.mk.injEq] at H
  obtain ⟨rfl, rfl⟩ := H
  go_enter Try.func138, Try.ntmps138
  go_wp2_with (first | ((with_reducible refine gate_callee (f := 143) rfl ?_); refine goesL_ (some 12) rfl rfl Try.func143 (by kernel_rfl) rfl #[.int .i64 a0] rfl (by (try simp only [List.map_toArray, List.map_cons, List.map_nil]); first | done | rfl | (simp only [List.length_drop, List.length_take]; rfl)) ?_; (with_reducible refine (impl_limitOf.calls a0 t271 _ A4.out).mono ?_); rintro e w' ⟨rfl, ⟨nd, rfl⟩⟩; refine ⟨_, rfl, ?_⟩) | ((with_reducible refine gate_callee (f := 139) rfl ?_); refine goesL_ (some 18) rfl rfl Try.func139 (by kernel_rfl) rfl #[.int .i64 a0, .int .i64 (Go.bits .and .i64 a1 (wrap64 (t271 - 1)))] rfl (by (try simp only [List.map_toArray, List.map_cons, List.map_nil]); first | done | rfl | (simp only [List.length_drop, List.length_take]; rfl)) ?_; (with_reducible refine (impl_signedOf.calls a0 (Go.bits .and .i64 a1 (wrap64 (t271 - 1))) t272 _ A5.out).mono ?_); rintro e w' ⟨rfl, ⟨nd, rfl⟩⟩; refine ⟨_, rfl, ?_⟩) | ((with_reducible refine gate_callee (f := 95) rfl ?_); refine goesL_ (some 24) rfl rfl Try.func95 (by kernel_rfl) rfl #[.bool (a1 != (Go.bits .and .i64 a1 (wrap64 (t271 - 1)))), .int .i64 17] rfl (by (try simp only [List.map_toArray, List.map_cons, List.map_nil]); first | done | rfl | (simp only [List.length_drop, List.length_take]; rfl)) ?_; (with_reducible refine (impl_flag.calls (a1 != (Go.bits .and .i64 a1 (wrap64 (t271 - 1)))) 17 t273 _ A6.out).mono ?_); rintro e w' ⟨rfl, ⟨nd, rfl⟩⟩; refine ⟨_, rfl, ?_⟩) | ((with_reducible refine gate_callee (f := 95) rfl ?_); refine goesL_ (some 26) rfl rfl Try.func95 (by kernel_rfl) rfl #[.bool (a2 != t272), .int .i64 2] rfl (by (try simp only [List.map_toArray, List.map_cons, List.map_nil]); first | done | rfl | (simp only [List.length_drop, List.length_take]; rfl)) ?_; (with_reducible refine (impl_flag.calls (a2 != t272) 2 t274 _ A7.out).mono ?_); rintro e w' ⟨rfl, ⟨nd, rfl⟩⟩; refine ⟨_, rfl, ?_⟩) | ((with_reducible refine gate_callee (f := 140) rfl ?_); refine goesL_ (some 30) rfl rfl Try.func140 (by kernel_rfl) rfl #[.int .i64 a0, .int .i64 (Go.bits .and .i64 a1 (wrap64 (t271 - 1)))] rfl (by (try simp only [List.map_toArray, List.map_cons, List.map_nil]); first | done | rfl | (simp only [List.length_drop, List.length_take]; rfl)) ?_; (with_reducible refine (impl_signs.calls a0 (Go.bits .and .i64 a1 (wrap64 (t271 - 1))) t275 _ A8.out).mono ?_); rintro e w' ⟨rfl, ⟨nd, rfl⟩⟩; refine ⟨_, rfl, ?_⟩))
  go_ret2
  exact ⟨by first | rfl | (simp; done) | (simp [*]; done), by repeat (first | exact Drawn0.refl _ | apply Drawn0.step)⟩

/-! ### impl_addFlags: function 109 -/
def impl_addFlags.f (a0 : Int) (a1 : Int) (a2 : Int) (a3 : Int) : Option (Int × Int) := (impl_signedOf.f a0 a2).bind fun t276 => ((impl_signedOf.f a0 a3).bind fun t277 => ((impl_reckoned.f a0 (wrap64 ((wrap64 (a2 + a3)) + a1)) (wrap64 ((wrap64 (t276 + t277)) + a1))).bind fun bt278 => (some (bt278.1, bt278.2))))
set_option maxHeartbeats 8000000 in
set_option maxRecDepth 100000 in
theorem impl_addFlags.calls (a0 : Int) (a1 : Int) (a2 : Int) (a3 : Int) (r1 : Int) (r2 : Int) (w : World) (h : impl_addFlags.f a0 a1 a2 a3 = some (r1, r2)) :
    Calls Try.prog 109 #[.int .i64 a0, .int .i64 a1, .int .i64 a2, .int .i64 a3] w fun e w' => e = .returned (.tuple #[.int .i64 r1, .int .i64 r2]) ∧ Drawn0 w w' := by
  have H : ((impl_signedOf.f a0 a2).bind fun t276 => ((impl_signedOf.f a0 a3).bind fun t277 => ((impl_reckoned.f a0 (wrap64 ((wrap64 (a2 + a3)) + a1)) (wrap64 ((wrap64 (t276 + t277)) + a1))).bind fun bt278 => (some (bt278.1, bt278.2))))) = some (r1, r2) := h
  clear h
  replace H := Option.bind_eq_some_iff.mp H
  obtain ⟨t276, A50, H⟩ := H
  replace H : ((impl_signedOf.f a0 a3).bind fun t277 => ((impl_reckoned.f a0 (wrap64 ((wrap64 (a2 + a3)) + a1)) (wrap64 ((wrap64 (t276 + t277)) + a1))).bind fun bt278 => (some (bt278.1, bt278.2)))) = some (r1, r2) := H
  have A5 := Aside0.mk A50
  clear A50
  replace H := Option.bind_eq_some_iff.mp H
  obtain ⟨t277, A60, H⟩ := H
  replace H : ((impl_reckoned.f a0 (wrap64 ((wrap64 (a2 + a3)) + a1)) (wrap64 ((wrap64 (t276 + t277)) + a1))).bind fun bt278 => (some (bt278.1, bt278.2))) = some (r1, r2) := H
  have A6 := Aside0.mk A60
  clear A60
  replace H := Option.bind_eq_some_iff.mp H
  obtain ⟨⟨t278, t279⟩, A70, H⟩ := H
  replace H : (some (t278, t279)) = some (r1, r2) := H
  have A7 := Aside0.mk A70
  clear A70
  simp only [Option.some.injEq, Prod.mk.injEq] at H
  obtain ⟨rfl, rfl⟩ := H
  go_enter Try.func109, Try.ntmps109
  go_wp2_with (first | ((with_reducible refine gate_callee (f := 139) rfl ?_); refine goesL_ (some 18) rfl rfl Try.func139 (by kernel_rfl) rfl #[.int .i64 a0, .int .i64 a2] rfl (by (try simp only [List.map_toArray, List.map_cons, List.map_nil]); first | done | rfl | (simp only [List.length_drop, List.length_take]; rfl)) ?_; (with_reducible refine (impl_signedOf.calls a0 a2 t276 _ A5.out).mono ?_); rintro e w' ⟨rfl, ⟨nd, rfl⟩⟩; refine ⟨_, rfl, ?_⟩) | ((with_reducible refine gate_callee (f := 139) rfl ?_); refine goesL_ (some 21) rfl rfl Try.func139 (by kernel_rfl) rfl #[.int .i64 a0, .int .i64 a3] rfl (by (try simp only [List.map_toArray, List.map_cons, List.map_nil]); first | done | rfl | (simp only [List.length_drop, List.length_take]; rfl)) ?_; (with_reducible refine (impl_signedOf.calls a0 a3 t277 _ A6.out).mono ?_); rintro e w' ⟨rfl, ⟨nd, rfl⟩⟩; refine ⟨_, rfl, ?_⟩) | ((with_reducible refine gate_callee (f := 138) rfl ?_); refine goesL_ (some 25) rfl rfl Try.func138 (by kernel_rfl) rfl #[.int .i64 a0, .int .i64 (wrap64 ((wrap64 (a2 + a3)) + a1)), .int .i64 (wrap64 ((wrap64 (t276 + t277)) + a1))] rfl (by (try simp only [List.map_toArray, List.map_cons, List.map_nil]); first | done | rfl | (simp only [List.length_drop, List.length_take]; rfl)) ?_; (with_reducible refine (impl_reckoned.calls a0 (wrap64 ((wrap64 (a2 + a3)) + a1)) (wrap64 ((wrap64 (t276 + t277)) + a1)) t278 t279 _ A7.out).mono ?_); rintro e w' ⟨rfl, ⟨nd, rfl⟩⟩; refine ⟨_, rfl, ?_⟩))
  go_ret2
  exact ⟨by first | rfl | (simp; done) | (simp [*]; done), by repeat (first | exact Drawn0.refl _ | apply Drawn0.step)⟩

/-! ### impl_subFlags: function 110 -/
def impl_subFlags.f (a0 : Int) (a1 : Int) (a2 : Int) (a3 : Int) : Option (Int × Int) := (impl_signedOf.f a0 a2).bind fun t280 => ((impl_signedOf.f a0 a3).bind fun t281 => ((impl_reckoned.f a0 (wrap64 ((wrap64 (a2 - a3)) - a1)) (wrap64 ((wrap64 (t280 - t281)) - a1))).bind fun bt282 => (some (bt282.1, bt282.2))))
set_option maxHeartbeats 8000000 in
set_option maxRecDepth 100000 in
theorem impl_subFlags.calls (a0 : Int) (a1 : Int) (a2 : Int) (a3 : Int) (r1 : Int) (r2 : Int) (w : World) (h : impl_subFlags.f a0 a1 a2 a3 = some (r1, r2)) :
    Calls Try.prog 110 #[.int .i64 a0, .int .i64 a1, .int .i64 a2, .int .i64 a3] w fun e w' => e = .returned (.tuple #[.int .i64 r1, .int .i64 r2]) ∧ Drawn0 w w' := by
  have H : ((impl_signedOf.f a0 a2).bind fun t280 => ((impl_signedOf.f a0 a3).bind fun t281 => ((impl_reckoned.f a0 (wrap64 ((wrap64 (a2 - a3)) - a1)) (wrap64 ((wrap64 (t280 - t281)) - a1))).bind fun bt282 => (some (bt282.1, bt282.2))))) = some (r1, r2) := h
  clear h
  replace H := Option.bind_eq_some_iff.mp H
  obtain ⟨t280, A50, H⟩ := H
  replace H : ((impl_signedOf.f a0 a3).bind fun t281 => ((impl_reckoned.f a0 (wrap64 ((wrap64 (a2 - a3)) - a1)) (wrap64 ((wrap64 (t280 - t281)) - a1))).bind fun bt282 => (some (bt282.1, bt282.2)))) = some (r1, r2) := H
  have A5 := Aside0.mk A50
  clear A50
  replace H := Option.bind_eq_some_iff.mp H
  obtain ⟨t281, A60, H⟩ := H
  replace H : ((impl_reckoned.f a0 (wrap64 ((wrap64 (a2 - a3)) - a1)) (wrap64 ((wrap64 (t280 - t281)) - a1))).bind fun bt282 => (some (bt282.1, bt282.2))) = some (r1, r2) := H
  have A6 := Aside0.mk A60
  clear A60
  replace H := Option.bind_eq_some_iff.mp H
  obtain ⟨⟨t282, t283⟩, A70, H⟩ := H
  replace H : (some (t282, t283)) = some (r1, r2) := H
  have A7 := Aside0.mk A70
  clear A70
  simp only [Option.some.injEq, Prod.mk.injEq] at H
  obtain ⟨rfl, rfl⟩ := H
  go_enter Try.func110, Try.ntmps110
  go_wp2_with (first | ((with_reducible refine gate_callee (f := 139) rfl ?_); refine goesL_ (some 18) rfl rfl Try.func139 (by kernel_rfl) rfl #[.int .i64 a0, .int .i64 a2] rfl (by (try simp only [List.map_toArray, List.map_cons, List.map_nil]); first | done | rfl | (simp only [List.length_drop, List.length_take]; rfl)) ?_; (with_reducible refine (impl_signedOf.calls a0 a2 t280 _ A5.out).mono ?_); rintro e w' ⟨rfl, ⟨nd, rfl⟩⟩; refine ⟨_, rfl, ?_⟩) | ((with_reducible refine gate_callee (f := 139) rfl ?_); refine goesL_ (some 21) rfl rfl Try.func139 (by kernel_rfl) rfl #[.int .i64 a0, .int .i64 a3] rfl (by (try simp only [List.map_toArray, List.map_cons, List.map_nil]); first | done | rfl | (simp only [List.length_drop, List.length_take]; rfl)) ?_; (with_reducible refine (impl_signedOf.calls a0 a3 t281 _ A6.out).mono ?_); rintro e w' ⟨rfl, ⟨nd, rfl⟩⟩; refine ⟨_, rfl, ?_⟩) | ((with_reducible refine gate_callee (f := 138) rfl ?_); refine goesL_ (some 25) rfl rfl Try.func138 (by kernel_rfl) rfl #[.int .i64 a0, .int .i64 (wrap64 ((wrap64 (a2 - a3)) - a1)), .int .i64 (wrap64 ((wrap64 (t280 - t281)) - a1))] rfl (by (try simp only [List.map_toArray, List.map_cons, List.map_nil]); first | done | rfl | (simp only [List.length_drop, List.length_take]; rfl)) ?_; (with_reducible refine (impl_reckoned.calls a0 (wrap64 ((wrap64 (a2 - a3)) - a1)) (wrap64 ((wrap64 (t280 - t281)) - a1)) t282 t283 _ A7.out).mono ?_); rintro e w' ⟨rfl, ⟨nd, rfl⟩⟩; refine ⟨_, rfl, ?_⟩))
  go_ret2
  exact ⟨by first | rfl | (simp; done) | (simp [*]; done), by repeat (first | exact Drawn0.refl _ | apply Drawn0.step)⟩

/-! ### impl_cmpFlags: function 111 -/
def impl_cmpFlags.f (a0 : Int) (a1 : Int) (a2 : Int) (a3 : Int) : Option (Int) := (impl_subFlags.f a0 0 a2 a3).bind fun bt284 => (some (Go.bits .or .i64 (Go.bits .andNot .i64 bt284.2 16) (Go.bits .and .i64 a1 16)))
set_option maxHeartbeats 8000000 in
set_option maxRecDepth 100000 in
theorem impl_cmpFlags.calls (a0 : Int) (a1 : Int) (a2 : Int) (a3 : Int) (r : Int) (w : World) (h : impl_cmpFlags.f a0 a1 a2 a3 = some r) :
    Calls Try.prog 111 #[.int .i64 a0, .int .i64 a1, .int .i64 a2, .int .i64 a3] w fun e w' => e = .returned (.int .i64 r) ∧ Drawn0 w w' := by
  have H : ((impl_subFlags.f a0 0 a2 a3).bind fun bt284 => (some (Go.bits .or .i64 (Go.bits .andNot .i64 bt284.2 16) (Go.bits .and .i64 a1 16)))) = some r := h
  clear h
  replace H := Option.bind_eq_some_iff.mp H
  obtain ⟨⟨t284, t285⟩, A50, H⟩ := H
  replace H : (some (Go.bits .or .i64 (Go.bits .andNot .i64 t285 16) (Go.bits .and .i64 a1 16))) = some r := H
  have A5 := Aside0.mk A50
  clear A50
  obtain rfl := Option.some.inj H
  go_enter Try.func111, Try.ntmps111
  go_wp2_with (first | ((with_reducible refine gate_callee (f := 110) rfl ?_); refine goesL_ (some 15) rfl rfl Try.func110 (by kernel_rfl) rfl #[.int .i64 a0, .int .i64 0, .int .i64 a2, .int .i64 a3] rfl (by (try simp only [List.map_toArray, List.map_cons, List.map_nil]); first | done | rfl | (simp only [List.length_drop, List.length_take]; rfl)) ?_; (with_reducible refine (impl_subFlags.calls a0 0 a2 a3 t284 t285 _ A5.out).mono ?_); rintro e w' ⟨rfl, ⟨nd, rfl⟩⟩; refine ⟨_, rfl, ?_⟩))
  go_ret
  exact ⟨by first | rfl | (simp; done) | (simp [*]; done), by repeat (first | exact Drawn0.refl _ | apply Drawn0.step)⟩

/-! ### impl_logicFlags: function 112 -/
def impl_logicFlags.f (a0 : Int) (a1 : Int) (a2 : Int) : Option (Int) := (impl_signs.f a0 a2).bind fun t286 => (some (Go.bits .or .i64 (Go.bits .and .i64 a1 16) t286))
set_option maxHeartbeats 8000000 in
set_option maxRecDepth 100000 in
theorem impl_logicFlags.calls (a0 : Int) (a1 : Int) (a2 : Int) (r : Int) (w : World) (h : impl_logicFlags.f a0 a1 a2 = some r) :
    Calls Try.prog 112 #[.int .i64 a0, .int .i64 a1, .int .i64 a2] w fun e w' => e = .returned (.int .i64 r) ∧ Drawn0 w w' := by
  have H : ((impl_signs.f a0 a2).bind fun t286 => (some (Go.bits .or .i64 (Go.bits .and .i64 a1 16) t286))) = some r := h
  clear h
  replace H := Option.bind_eq_some_iff.mp H
  obtain ⟨t286, A40, H⟩ := H
  replace H : (some (Go.bits .or .i64 (Go.bits .and .i64 a1 16) t286)) = some r := H
  have A4 := Aside0.mk A40
  clear A40
  obtain rfl := Option.some.inj H
  go_enter Try.func112, Try.ntmps112
  go_wp2_with (first | ((with_reducible refine gate_callee (f := 140) rfl ?_); refine goesL_ (some 11) rfl rfl Try.func140 (by kernel_rfl) rfl #[.int .i64 a0, .int .i64 a2] rfl (by (try simp only [List.map_toArray, List.map_cons, List.map_nil]); first | done | rfl | (simp only [List.length_drop, List.length_take]; rfl)) ?_; (with_reducible refine (impl_signs.calls a0 a2 t286 _ A4.out).mono ?_); rintro e w' ⟨rfl, ⟨nd, rfl⟩⟩; refine ⟨_, rfl, ?_⟩))
  go_ret
  exact ⟨by first | rfl | (simp; done) | (simp [*]; done), by repeat (first | exact Drawn0.refl _ | apply Drawn0.step)⟩

/-! ### impl_isLeft: function 141 -/
def impl_isLeft.f (a0 : Int) : Option (Bool) := some ((Int.tmod a0 2) == 0)
set_option maxHeartbeats 8000000 in
set_option maxRecDepth 100000 in
theorem impl_isLeft.calls (a0 : Int) (r : Bool) (w : World) (h : impl_isLeft.f a0 = some r) :
    Calls Try.prog 141 #[.int .i64 a0] w fun e w' => e = .returned (.bool r) ∧ Drawn0 w w' := by
  have H : (some ((Int.tmod a0 2) == 0)) = some r := h
  clear h
  obtain rfl := Option.some.inj H
  go_enter Try.func141, Try.ntmps141
  go_wp2
  go_ret
  exact ⟨by first | rfl | (simp; done) | (simp [*]; done), by repeat (first | exact Drawn0.refl _ | apply Drawn0.step)⟩

/-! ### impl_coming: function 142 -/
def impl_coming.j0 : Nat → Int → Int → Int → Bool → Option (Int)
  | 0, _, _, _, _ => none
  | k + 1, x2, x4, x11, x19 => if x19 = true then (some x4) else (if x11 = 6 then (some (wrap64 (Int.tdiv x2 16))) else (if x11 = 7 then (some (wrap64 (Int.tdiv x2 16))) else (some 0)))
def impl_coming.f (k : Nat) (a0 : Int) (a1 : Int) (a2 : Int) (a3 : Int) (a4 : Int) : Option (Int) := if a0 = 1 then (if 0 ≤ (wrap64 ((wrap64 (8 * a1)) - 1)) then (some (shr .i64 a3 (wrap64 ((wrap64 (8 * a1)) - 1)))) else (none)) else (if a0 = 4 then (impl_coming.j0 k a2 a4 a0 (a0 == 4)) else (impl_coming.j0 k a2 a4 a0 (a0 == 5)))
theorem impl_coming.mono_l : ∀ k, (∀ y0 y1 y2 y3, LeO (impl_coming.j0 k y0 y1 y2 y3) (impl_coming.j0 (k + 1) y0 y1 y2 y3))
  | 0 => fun _ _ _ _ r h => by simp [impl_coming.j0] at h
  | k + 1 => by
    have ih0 := impl_coming.mono_l k
    · intro y0 y1 y2 y3
      unfold impl_coming.j0
      repeat' first
      | (with_reducible exact ih0 _ _ _ _)
      | (with_reducible exact LeO.refl _)
      | (with_reducible exact LeO.none _)
      | (with_reducible refine LeO.ite ?_ ?_)
      | (with_reducible refine LeO.bind ?_ (fun _ => ?_))
      | exact ih0 _ _ _ _
      | exact LeO.none _
      | refine LeO.ite ?_ ?_
      | refine LeO.bind ?_ (fun _ => ?_)
theorem impl_coming.mono : ∀ a0 a1 a2 a3 a4 k, LeO (impl_coming.f k a0 a1 a2 a3 a4) (impl_coming.f (k + 1) a0 a1 a2 a3 a4) := by
  intro a0 a1 a2 a3 a4 k
  have ih0 := impl_coming.mono_l k
  unfold impl_coming.f
  repeat' first
      | (with_reducible exact ih0 _ _ _ _)
      | (with_reducible exact LeO.refl _)
      | (with_reducible exact LeO.none _)
      | (with_reducible refine LeO.ite ?_ ?_)
      | (with_reducible refine LeO.bind ?_ (fun _ => ?_))
      | exact ih0 _ _ _ _
      | exact LeO.none _
      | refine LeO.ite ?_ ?_
      | refine LeO.bind ?_ (fun _ => ?_)
set_option maxHeartbeats 8000000 in
set_option maxRecDepth 100000 in
theorem impl_coming.calls (k : Nat) (a0 : Int) (a1 : Int) (a2 : Int) (a3 : Int) (a4 : Int) (r : Int) (w : World) (h : impl_coming.f k a0 a1 a2 a3 a4 = some r) :
    Calls Try.prog 142 #[.int .i64 a0, .int .i64 a1, .int .i64 a2, .int .i64 a3, .int .i64 a4] w fun e w' => e = .returned (.int .i64 r) ∧ Drawn0 w w' := by
  have H : (if a0 = 1 then (if 0 ≤ (wrap64 ((wrap64 (8 * a1)) - 1)) then (some (shr .i64 a3 (wrap64 ((wrap64 (8 * a1)) - 1)))) else (none)) else (if a0 = 4 then (impl_coming.j0 k a2 a4 a0 (a0 == 4)) else (impl_coming.j0 k a2 a4 a0 (a0 == 5)))) = some r := h
  clear h
  by_cases c6 : a0 = 1
  · rw [if_pos c6] at H
    have c6b0 : (a0 == 1) = true := beq_iff_eq.mpr c6
    have c6b1 : (a0 != 1) = false := bne_eq_false_iff_eq.mpr c6
    clear c6
    obtain ⟨ji7, hji7⟩ : ∃ j_ : Int, (wrap64 ((wrap64 (8 * a1)) - 1)) = j_ := ⟨_, rfl⟩
    replace H : (if 0 ≤ (ji7) then (some (shr .i64 a3 (ji7))) else (none)) = some r := by first | (rw [hji7] at H; exact H) | (simp only [hji7] at H ⊢; exact H)
    have hji7w : (IntKind.i64.wrap ((wrap64 (8 * a1)) - 1)) = ji7 := (i64_w _).trans hji7
    by_cases c8 : 0 ≤ (ji7)
    · rw [if_pos c8] at H
      have c8b0 := eq_true c8
      have c8b1 : decide (0 ≤ (ji7)) = true := decide_eq_true c8
      clear c8
      obtain ⟨ji9, hji9⟩ : ∃ j_ : Int, (shr .i64 a3 (ji7)) = j_ := ⟨_, rfl⟩
      replace H : (some ji9) = some r := by first | (rw [hji9] at H; exact H) | (simp only [hji9] at H ⊢; exact H)
      have hji9_ : (a3 / 2 ^ min (ji7).toNat 64) = ji9 := hji9
      have hji9z : (ji7) ≤ 64 → (a3 / 2 ^ (ji7).toNat) = ji9 := shr_small hji9
      obtain rfl := Option.some.inj H
      go_enter Try.func142, Try.ntmps142
      go_wp2
      go_ret
      exact ⟨by first | rfl | (simp; done) | (simp only [← hji7, ← hji9] <;> (first | rfl | simp)) | (simp [*]; done), by repeat (first | exact Drawn0.refl _ | apply Drawn0.step)⟩
    · rw [if_neg c8] at H
      exact absurd H (by simp)
  · rw [if_neg c6] at H
    have c6b0 : (a0 == 1) = false := beq_eq_false_iff_ne.mpr c6
    have c6b1 : (a0 != 1) = true := bne_iff_ne.mpr c6
    have HC10 := Aside0.mk H
    clear H
    go_enter Try.func142, Try.ntmps142
    go_upto_if 19 with (fail)
    go_cut [19] (fun v19 wc => ∃ (kq : Nat) (x19_9 : Bool), v19 = .bool x19_9 ∧ Aside0 (impl_coming.j0 kq a2 a4 a0 x19_9 = some r) ∧ Aside0 (kq ≤ k) ∧ Drawn0 w wc)
    case first =>
      have H := HC10.out
      clear HC10
      by_cases c11 : a0 = 4
      · rw [if_pos c11] at H
        have c11b0 : (a0 == 4) = true := beq_iff_eq.mpr c11
        have c11b1 : (a0 != 4) = false := bne_eq_false_iff_eq.mpr c11
        clear c11
        (first | rw [c11b0] | (simp only [i64_w, i32_w]; rw [c11b0]) | skip)
        have H' := Aside0.mk H
        clear H
        go_wp2
        go_meet
        case rel => exact ⟨_, ((a0 == 4)), (by first | rfl | (simp; done) | (simp [*]; done)), (by first | exact H' | (rw [hji7]; exact H') | (rw [hji9]; exact H')), ⟨by first | omega | exact Nat.le_refl _⟩, by repeat (first | exact Drawn0.refl _ | apply Drawn0.step)⟩
      · rw [if_neg c11] at H
        have c11b0 : (a0 == 4) = false := beq_eq_false_iff_ne.mpr c11
        have c11b1 : (a0 != 4) = true := bne_iff_ne.mpr c11
        (first | rw [c11b0] | (simp only [i64_w, i32_w]; rw [c11b0]) | skip)
        have H' := Aside0.mk H
        clear H
        go_wp2
        go_meet
        case rel => exact ⟨_, ((a0 == 5)), (by first | rfl | (simp; done) | (simp [*]; done)), (by first | exact H' | (rw [hji7]; exact H') | (rw [hji9]; exact H')), ⟨by first | omega | exact Nat.le_refl _⟩, by repeat (first | exact Drawn0.refl _ | apply Drawn0.step)⟩
    case rest =>
      clear HC10
      try clear c1
      try clear p2
      try clear c6
      try clear c6b0
      try clear c6b1
      try clear p6
      try clear c8
      try clear c8b0
      try clear c8b1
      try clear c11
      try clear c11b0
      try clear c11b1
      obtain ⟨kq, x19_9, rfl, HA, HJ9, ⟨mc9, rfl⟩⟩ := hcut
      cases kq with
      | zero => exact absurd HA.out (by simp [impl_coming.j0])
      | succ kj9 =>
        have H := HA.out
        clear HA
        simp only [impl_coming.j0] at H
        by_cases c12 : x19_9 = true
        · subst c12
          have H1 : (some a4) = some r := by rw [if_pos rfl] at H; exact H
          clear H
          have H := H1
          clear H1
          obtain rfl := Option.some.inj H
          go_wp2
          go_ret
          exact ⟨by first | rfl | (simp; done) | (simp [*]; done), by repeat (first | exact Drawn0.refl _ | apply Drawn0.step)⟩
        · replace c12 := Bool.eq_false_iff.mpr c12
          subst c12
          have H1 : (if a0 = 6 then (some (wrap64 (Int.tdiv a2 16))) else (if a0 = 7 then (some (wrap64 (Int.tdiv a2 16))) else (some 0))) = some r := by rw [if_neg (show ¬ (false = true) by decide)] at H; exact H
          clear H
          have H := H1
          clear H1
          by_cases c13 : a0 = 6
          · rw [if_pos c13] at H
            have c13b0 : (a0 == 6) = true := beq_iff_eq.mpr c13
            have c13b1 : (a0 != 6) = false := bne_eq_false_iff_eq.mpr c13
            clear c13
            obtain rfl := Option.some.inj H
            go_wp2
            go_ret
            exact ⟨by first | rfl | (simp; done) | (simp [*]; done), by repeat (first | exact Drawn0.refl _ | apply Drawn0.step)⟩
          · rw [if_neg c13] at H
            have c13b0 : (a0 == 6) = false := beq_eq_false_iff_ne.mpr c13
            have c13b1 : (a0 != 6) = true := bne_iff_ne.mpr c13
            by_cases c14 : a0 = 7
            · rw [if_pos c14] at H
              have c14b0 : (a0 == 7) = true := beq_iff_eq.mpr c14
              have c14b1 : (a0 != 7) = false := bne_eq_false_iff_eq.mpr c14
              clear c14
              obtain rfl := Option.some.inj H
              go_wp2
              go_ret
              exact ⟨by first | rfl | (simp; done) | (simp [*]; done), by repeat (first | exact Drawn0.refl _ | apply Drawn0.step)⟩
            · rw [if_neg c14] at H
              have c14b0 : (a0 == 7) = false := beq_eq_false_iff_ne.mpr c14
              have c14b1 : (a0 != 7) = true := bne_iff_ne.mpr c14
              obtain rfl := Option.some.inj H
              go_wp2
              go_ret
              exact ⟨by first | rfl | (simp; done) | (simp [*]; done), by repeat (first | exact Drawn0.refl _ | apply Drawn0.step)⟩

/-! ### impl_shiftOnce: function 113 -/
mutual
def impl_shiftOnce.j0 : Nat → Int → Int → Int → Int → Int → Int → Option (Int × Int)
  | 0, _, _, _, _, _, _ => none
  | k + 1, x0, x1, x2, x3, x10, x11 => (impl_coming.f k x0 x1 x2 x3 x11).bind fun t288 => (if 0 ≤ x10 then ((impl_isLeft.f x0).bind fun t289 => (if t289 = true then ((impl_limitOf.f x1).bind fun t290 => (impl_shiftOnce.j1 k x0 x1 x2 x3 x10 x11 (Go.bits .or .i64 (Go.bits .and .i64 (wrap64 (x3 * 2)) (wrap64 (t290 - 1))) t288))) else (impl_shiftOnce.j1 k x0 x1 x2 x3 x10 x11 (Go.bits .or .i64 (x3 / 2) (shl .i64 t288 x10))))) else (none))
def impl_shiftOnce.j1 : Nat → Int → Int → Int → Int → Int → Int → Int → Option (Int × Int)
  | 0, _, _, _, _, _, _, _ => none
  | k + 1, x0, x1, x2, x3, x10, x11, x13 => if x0 = 4 then (impl_shiftOnce.j2 k x0 x1 x2 x3 x10 x11 x13 (wrap64 (x11 * 16)) true) else (impl_shiftOnce.j2 k x0 x1 x2 x3 x10 x11 x13 (wrap64 (x11 * 16)) (x0 == 5))
def impl_shiftOnce.j2 : Nat → Int → Int → Int → Int → Int → Int → Int → Int → Bool → Option (Int × Int)
  | 0, _, _, _, _, _, _, _, _, _ => none
  | k + 1, x0, x1, x2, x3, x10, x11, x13, x14, x55 => if x55 = true then (if x0 = 0 then (if 0 ≤ x10 then ((impl_flag.f ((shr .i64 x13 x10) != (shr .i64 x3 x10)) 2).bind fun t291 => ((impl_signs.f x1 x13).bind fun t292 => (some (x13, Go.bits .or .i64 (Go.bits .or .i64 (Go.bits .or .i64 (wrap64 (x11 * 1)) (Go.bits .and .i64 x2 16)) t291) t292)))) else (none)) else ((impl_flag.f false 2).bind fun t293 => ((impl_signs.f x1 x13).bind fun t294 => (some (x13, Go.bits .or .i64 (Go.bits .or .i64 (Go.bits .or .i64 (wrap64 (x11 * 1)) (Go.bits .and .i64 x2 16)) t293) t294))))) else (if x0 = 0 then (if 0 ≤ x10 then ((impl_flag.f ((shr .i64 x13 x10) != (shr .i64 x3 x10)) 2).bind fun t295 => ((impl_signs.f x1 x13).bind fun t296 => (some (x13, Go.bits .or .i64 (Go.bits .or .i64 (Go.bits .or .i64 (wrap64 (x11 * 1)) x14) t295) t296)))) else (none)) else ((impl_flag.f false 2).bind fun t297 => ((impl_signs.f x1 x13).bind fun t298 => (some (x13, Go.bits .or .i64 (Go.bits .or .i64 (Go.bits .or .i64 (wrap64 (x11 * 1)) x14) t297) t298)))))
end
def impl_shiftOnce.f (k : Nat) (a0 : Int) (a1 : Int) (a2 : Int) (a3 : Int) : Option (Int × Int) := (impl_isLeft.f a0).bind fun t287 => (if t287 = true then (if 0 ≤ (wrap64 ((wrap64 (8 * a1)) - 1)) then (impl_shiftOnce.j0 k a0 a1 a2 a3 (wrap64 ((wrap64 (8 * a1)) - 1)) (shr .i64 a3 (wrap64 ((wrap64 (8 * a1)) - 1)))) else (none)) else (impl_shiftOnce.j0 k a0 a1 a2 a3 (wrap64 ((wrap64 (8 * a1)) - 1)) (Go.bits .and .i64 a3 1)))
theorem impl_shiftOnce.mono_l : ∀ k, (∀ y0 y1 y2 y3 y4 y5, LeO (impl_shiftOnce.j0 k y0 y1 y2 y3 y4 y5) (impl_shiftOnce.j0 (k + 1) y0 y1 y2 y3 y4 y5)) ∧ (∀ y0 y1 y2 y3 y4 y5 y6, LeO (impl_shiftOnce.j1 k y0 y1 y2 y3 y4 y5 y6) (impl_shiftOnce.j1 (k + 1) y0 y1 y2 y3 y4 y5 y6)) ∧ (∀ y0 y1 y2 y3 y4 y5 y6 y7 y8, LeO (impl_shiftOnce.j2 k y0 y1 y2 y3 y4 y5 y6 y7 y8) (impl_shiftOnce.j2 (k + 1) y0 y1 y2 y3 y4 y5 y6 y7 y8))
  | 0 => ⟨fun _ _ _ _ _ _ r h => by simp [impl_shiftOnce.j0] at h, fun _ _ _ _ _ _ _ r h => by simp [impl_shiftOnce.j1] at h, fun _ _ _ _ _ _ _ _ _ r h => by simp [impl_shiftOnce.j2] at h⟩
  | k + 1 => by
    obtain ⟨ih0, ih1, ih2⟩ := impl_shiftOnce.mono_l k
    refine ⟨?_, ?_, ?_⟩
    · intro y0 y1 y2 y3 y4 y5
      unfold impl_shiftOnce.j0
      repeat' first
      | (with_reducible exact ih0 _ _ _ _ _ _)
      | (with_reducible exact ih1 _ _ _ _ _ _ _)
      | (with_reducible exact ih2 _ _ _ _ _ _ _ _ _)
      | (with_reducible exact impl_coming.mono _ _ _ _ _ _)
      | (with_reducible exact LeO.refl _)
      | (with_reducible exact LeO.none _)
      | (with_reducible refine LeO.ite ?_ ?_)
      | (with_reducible refine LeO.bind ?_ (fun _ => ?_))
      | exact ih0 _ _ _ _ _ _
      | exact ih1 _ _ _ _ _ _ _
      | exact ih2 _ _ _ _ _ _ _ _ _
      | exact impl_coming.mono _ _ _ _ _ _
      | exact LeO.none _
      | refine LeO.ite ?_ ?_
      | refine LeO.bind ?_ (fun _ => ?_)
    · intro y0 y1 y2 y3 y4 y5 y6
      unfold impl_shiftOnce.j1
      repeat' first
      | (with_reducible exact ih0 _ _ _ _ _ _)
      | (with_reducible exact ih1 _ _ _ _ _ _ _)
      | (with_reducible exact ih2 _ _ _ _ _ _ _ _ _)
      | (with_reducible exact impl_coming.mono _ _ _ _ _ _)
      | (with_reducible exact LeO.refl _)
      | (with_reducible exact LeO.none _)
      | (with_reducible refine LeO.ite ?_ ?_)
      | (with_reducible refine LeO.bind ?_ (fun _ => ?_))
      | exact ih0 _ _ _ _ _ _
      | exact ih1 _ _ _ _ _ _ _
      | exact ih2 _ _ _ _ _ _ _ _ _
      | exact impl_coming.mono _ _ _ _ _ _
      | exact LeO.none _
      | refine LeO.ite ?_ ?_
      | refine LeO.bind ?_ (fun _ => ?_)
    · intro y0 y1 y2 y3 y4 y5 y6 y7 y8
      unfold impl_shiftOnce.j2
      repeat' first
      | (with_reducible exact ih0 _ _ _ _ _ _)
      | (with_reducible exact ih1 _ _ _ _ _ _ _)
      | (with_reducible exact ih2 _ _ _ _ _ _ _ _ _)
      | (with_reducible exact impl_coming.mono _ _ _ _ _ _)
      | (with_reducible exact LeO.refl _)
      | (with_reducible exact LeO.none _)
      | (with_reducible refine LeO.ite ?_ ?_)
      | (with_reducible refine LeO.bind ?_ (fun _ => ?_))
      | exact ih0 _ _ _ _ _ _
      | exact ih1 _ _ _ _ _ _ _
      | exact ih2 _ _ _ _ _ _ _ _ _
      | exact impl_coming.mono _ _ _ _ _ _
      | exact LeO.none _
      | refine LeO.ite ?_ ?_
      | refine LeO.bind ?_ (fun _ => ?_)
theorem impl_shiftOnce.mono : ∀ a0 a1 a2 a3 k, LeO (impl_shiftOnce.f k a0 a1 a2 a3) (impl_shiftOnce.f (k + 1) a0 a1 a2 a3) := by
  intro a0 a1 a2 a3 k
  obtain ⟨ih0, ih1, ih2⟩ := impl_shiftOnce.mono_l k
  unfold impl_shiftOnce.f
  repeat' first
      | (with_reducible exact ih0 _ _ _ _ _ _)
      | (with_reducible exact ih1 _ _ _ _ _ _ _)
      | (with_reducible exact ih2 _ _ _ _ _ _ _ _ _)
      | (with_reducible exact impl_coming.mono _ _ _ _ _ _)
      | (with_reducible exact LeO.refl _)
      | (with_reducible exact LeO.none _)
      | (with_reducible refine LeO.ite ?_ ?_)
      | (with_reducible refine LeO.bind ?_ (fun _ => ?_))
      | exact ih0 _ _ _ _ _ _
      | exact ih1 _ _ _ _ _ _ _
      | exact ih2 _ _ _ _ _ _ _ _ _
      | exact impl_coming.mono _ _ _ _ _ _
      | exact LeO.none _
      | refine LeO.ite ?_ ?_
      | refine LeO.bind ?_ (fun _ => ?_)
set_option maxHeartbeats 8000000 in
set_option maxRecDepth 100000 in
theorem impl_shiftOnce.calls (k : Nat) (a0 : Int) (a1 : Int) (a2 : Int) (a3 : Int) (r1 : Int) (r2 : Int) (w : World) (h : impl_shiftOnce.f k a0 a1 a2 a3 = some (r1, r2)) :
    Calls Try.prog 113 #[.int .i64 a0, .int .i64 a1, .int .i64 a2, .int .i64 a3] w fun e w' => e = .returned (.tuple #[.int .i64 r1, .int .i64 r2]) ∧ Drawn0 w w' := by
  have H : ((impl_isLeft.f a0).bind fun t287 => (if t287 = true then (if 0 ≤ (wrap64 ((wrap64 (8 * a1)) - 1)) then (impl_shiftOnce.j0 k a0 a1 a2 a3 (wrap64 ((wrap64 (8 * a1)) - 1)) (shr .i64 a3 (wrap64 ((wrap64 (8 * a1)) - 1)))) else (none)) else (impl_shiftOnce.j0 k a0 a1 a2 a3 (wrap64 ((wrap64 (8 * a1)) - 1)) (Go.bits .and .i64 a3 1)))) = some (r1, r2) := h
  clear h
  replace H := Option.bind_eq_some_iff.mp H
  obtain ⟨t287, A50, H⟩ := H
  replace H : (if t287 = true then (if 0 ≤ (wrap64 ((wrap64 (8 * a1)) - 1)) then (impl_shiftOnce.j0 k a0 a1 a2 a3 (wrap64 ((wrap64 (8 * a1)) - 1)) (shr .i64 a3 (wrap64 ((wrap64 (8 * a1)) - 1)))) else (none)) else (impl_shiftOnce.j0 k a0 a1 a2 a3 (wrap64 ((wrap64 (8 * a1)) - 1)) (Go.bits .and .i64 a3 1))) = some (r1, r2) := H
  have A5 := Aside0.mk A50
  clear A50
  have HC6 := Aside0.mk H
  clear H
  go_enter Try.func113, Try.ntmps113
  go_upto_if 22 with (first | (go_at_call 141; (with_reducible refine (impl_isLeft.calls a0 t287 _ A5.out).mono ?_); rintro e w' ⟨rfl, ⟨nd, rfl⟩⟩; (try first | exact ⟨rfl, _, World.drewN_drewN _ _ _⟩ | exact ⟨rfl, _, Eq.trans (World.drewN_drewN _ _ _) (congrArg (World.drewN _) (Nat.add_assoc _ _ _))⟩)))
  repeat (go_quiet (first | (go_at_call 141; (with_reducible refine (impl_isLeft.calls a0 t287 _ A5.out).mono ?_); rintro e w' ⟨rfl, ⟨nd, rfl⟩⟩; (try first | exact ⟨rfl, _, World.drewN_drewN _ _ _⟩ | exact ⟨rfl, _, Eq.trans (World.drewN_drewN _ _ _) (congrArg (World.drewN _) (Nat.add_assoc _ _ _))⟩))); go_upto_if 22 with (first | (go_at_call 141; (with_reducible refine (impl_isLeft.calls a0 t287 _ A5.out).mono ?_); rintro e w' ⟨rfl, ⟨nd, rfl⟩⟩; (try first | exact ⟨rfl, _, World.drewN_drewN _ _ _⟩ | exact ⟨rfl, _, Eq.trans (World.drewN_drewN _ _ _) (congrArg (World.drewN _) (Nat.add_assoc _ _ _))⟩))))
  (try simp only [Act.put, List.setIfInBounds_toArray, List.set_cons_zero, List.set_cons_succ])
  go_cut [11] (fun v11 wc => ∃ (kq : Nat) (x11_5 : Int), v11 = .int .i64 x11_5 ∧ Aside0 (impl_shiftOnce.j0 kq a0 a1 a2 a3 (wrap64 ((wrap64 (8 * a1)) - 1)) x11_5 = some (r1, r2)) ∧ Aside0 (kq ≤ k) ∧ Drawn0 w wc)
  case first =>
    have H := HC6.out
    clear HC6
    by_cases c7 : t287 = true
    · subst c7
      have H1 : (if 0 ≤ (wrap64 ((wrap64 (8 * a1)) - 1)) then (impl_shiftOnce.j0 k a0 a1 a2 a3 (wrap64 ((wrap64 (8 * a1)) - 1)) (shr .i64 a3 (wrap64 ((wrap64 (8 * a1)) - 1)))) else (none)) = some (r1, r2) := by rw [if_pos rfl] at H; exact H
      clear H
      have H := H1
      clear H1
      obtain ⟨ji8, hji8⟩ : ∃ j_ : Int, (wrap64 ((wrap64 (8 * a1)) - 1)) = j_ := ⟨_, rfl⟩
      replace H : (if 0 ≤ (ji8) then (impl_shiftOnce.j0 k a0 a1 a2 a3 ji8 (shr .i64 a3 (ji8))) else (none)) = some (r1, r2) := by first | (rw [hji8] at H; exact H) | (simp only [hji8] at H ⊢; exact H)
      have hji8w : (IntKind.i64.wrap ((wrap64 (8 * a1)) - 1)) = ji8 := (i64_w _).trans hji8
      by_cases c9 : 0 ≤ (ji8)
      · rw [if_pos c9] at H
        have c9b0 := eq_true c9
        have c9b1 : decide (0 ≤ (ji8)) = true := decide_eq_true c9
        clear c9
        obtain ⟨ji10, hji10⟩ : ∃ j_ : Int, (shr .i64 a3 (ji8)) = j_ := ⟨_, rfl⟩
        replace H : (impl_shiftOnce.j0 k a0 a1 a2 a3 ji8 ji10) = some (r1, r2) := by first | (rw [hji10] at H; exact H) | (simp only [hji10] at H ⊢; exact H)
        have hji10_ : (a3 / 2 ^ min (ji8).toNat 64) = ji10 := hji10
        have hji10z : (ji8) ≤ 64 → (a3 / 2 ^ (ji8).toNat) = ji10 := shr_small hji10
        have H' := Aside0.mk H
        clear H
        go_wp2
        repeat (go_quiet (fail); try go_wp2)
        go_meet
        case rel => exact ⟨_, (ji10), (by first | rfl | (simp; done) | (simp only [← hji10] <;> (first | rfl | simp)) | (simp [*]; done)), (by first | exact H' | (rw [hji10]; exact H') | (rw [hji12]; exact H') | (rw [hji14]; exact H') | (rw [hji24]; exact H') | (rw [hji26]; exact H') | (rw [hji33]; exact H') | (rw [hji35]; exact H') | (rw [hji8]; exact H')), ⟨by first | omega | exact Nat.le_refl _⟩, by repeat (first | exact Drawn0.refl _ | apply Drawn0.step)⟩
      · rw [if_neg c9] at H
        exact absurd H (by simp)
    · replace c7 := Bool.eq_false_iff.mpr c7
      subst c7
      have H1 : (impl_shiftOnce.j0 k a0 a1 a2 a3 (wrap64 ((wrap64 (8 * a1)) - 1)) (Go.bits .and .i64 a3 1)) = some (r1, r2) := by rw [if_neg (show ¬ (false = true) by decide)] at H; exact H
      clear H
      have H := H1
      clear H1
      have H' := Aside0.mk H
      clear H
      go_wp2
      repeat (go_quiet (fail); try go_wp2)
      go_meet
      case rel => exact ⟨_, (Go.bits .and .i64 a3 1), (by first | rfl | (simp; done) | (simp [*]; done)), (by first | exact H' | (rw [hji10]; exact H') | (rw [hji12]; exact H') | (rw [hji14]; exact H') | (rw [hji24]; exact H') | (rw [hji26]; exact H') | (rw [hji33]; exact H') | (rw [hji35]; exact H') | (rw [hji8]; exact H')), ⟨by first | omega | exact Nat.le_refl _⟩, by repeat (first | exact Drawn0.refl _ | apply Drawn0.step)⟩
  case rest =>
    clear HC6
    try clear c1
    try clear p2
    try clear p6
    try clear c7
    try clear c9
    try clear c9b0
    try clear c9b1
    obtain ⟨kq, x11_5, rfl, HA, HJ5, ⟨mc5, rfl⟩⟩ := hcut
    cases kq with
    | zero => exact absurd HA.out (by simp [impl_shiftOnce.j0])
    | succ kj5 =>
      have H := HA.out
      clear HA
      simp only [impl_shiftOnce.j0] at H
      replace H := Option.bind_eq_some_iff.mp H
      obtain ⟨t288, A110, H⟩ := H
      replace H : (if 0 ≤ (wrap64 ((wrap64 (8 * a1)) - 1)) then ((impl_isLeft.f a0).bind fun t289 => (if t289 = true then ((impl_limitOf.f a1).bind fun t290 => (impl_shiftOnce.j1 kj5 a0 a1 a2 a3 (wrap64 ((wrap64 (8 * a1)) - 1)) x11_5 (Go.bits .or .i64 (Go.bits .and .i64 (wrap64 (a3 * 2)) (wrap64 (t290 - 1))) t288))) else (impl_shiftOnce.j1 kj5 a0 a1 a2 a3 (wrap64 ((wrap64 (8 * a1)) - 1)) x11_5 (Go.bits .or .i64 (a3 / 2) (shl .i64 t288 (wrap64 ((wrap64 (8 * a1)) - 1))))))) else (none)) = some (r1, r2) := H
      have A11 := Aside0.mk A110
      clear A110
      obtain ⟨ji12, hji12⟩ : ∃ j_ : Int, (wrap64 ((wrap64 (8 * a1)) - 1)) = j_ := ⟨_, rfl⟩
      replace H : (if 0 ≤ (ji12) then ((impl_isLeft.f a0).bind fun t289 => (if t289 = true then ((impl_limitOf.f a1).bind fun t290 => (impl_shiftOnce.j1 kj5 a0 a1 a2 a3 (ji12) x11_5 (Go.bits .or .i64 (Go.bits .and .i64 (wrap64 (a3 * 2)) (wrap64 (t290 - 1))) t288))) else (impl_shiftOnce.j1 kj5 a0 a1 a2 a3 (ji12) x11_5 (Go.bits .or .i64 (a3 / 2) (shl .i64 t288 (ji12)))))) else (none)) = some (r1, r2) := by first | (rw [hji12] at H; exact H) | (simp only [hji12] at H ⊢; exact H)
      (try rw [hji12] at A11)
      have hji12w : (IntKind.i64.wrap ((wrap64 (8 * a1)) - 1)) = ji12 := (i64_w _).trans hji12
      by_cases c13 : 0 ≤ (ji12)
      · rw [if_pos c13] at H
        have c13b0 := eq_true c13
        have c13b1 : decide (0 ≤ (ji12)) = true := decide_eq_true c13
        clear c13
        obtain ⟨ji14, hji14⟩ : ∃ j_ : Int, (shl .i64 t288 (ji12)) = j_ := ⟨_, rfl⟩
        replace H : ((impl_isLeft.f a0).bind fun t289 => (if t289 = true then ((impl_limitOf.f a1).bind fun t290 => (impl_shiftOnce.j1 kj5 a0 a1 a2 a3 (ji12) x11_5 (Go.bits .or .i64 (Go.bits .and .i64 (wrap64 (a3 * 2)) (wrap64 (t290 - 1))) t288))) else (impl_shiftOnce.j1 kj5 a0 a1 a2 a3 (ji12) x11_5 (Go.bits .or .i64 (a3 / 2) (ji14))))) = some (r1, r2) := by first | (rw [hji14] at H; exact H) | (simp only [hji14] at H ⊢; exact H)
        (try rw [hji14] at A11)
        have hji14_ : (IntKind.i64.wrap (t288 * 2 ^ min (ji12).toNat 64)) = ji14 := hji14
        have hji14z : (ji12) ≤ 64 → (IntKind.i64.wrap (t288 * 2 ^ (ji12).toNat)) = ji14 := shl_small hji14
        have hji14y : (wrap64 (t288 * 2 ^ min (ji12).toNat 64)) = ji14 := (i64_w _).symm.trans hji14_
        have hji14x : (ji12) ≤ 64 → (wrap64 (t288 * 2 ^ (ji12).toNat)) = ji14 := fun h_ => (i64_w _).symm.trans (hji14z h_)
        replace H := Option.bind_eq_some_iff.mp H
        obtain ⟨t289, A150, H⟩ := H
        replace H : (if t289 = true then ((impl_limitOf.f a1).bind fun t290 => (impl_shiftOnce.j1 kj5 a0 a1 a2 a3 (ji12) x11_5 (Go.bits .or .i64 (Go.bits .and .i64 (wrap64 (a3 * 2)) (wrap64 (t290 - 1))) t288))) else (impl_shiftOnce.j1 kj5 a0 a1 a2 a3 (ji12) x11_5 (Go.bits .or .i64 (a3 / 2) (ji14)))) = some (r1, r2) := H
        have A15 := Aside0.mk A150
        clear A150
        have HC16 := Aside0.mk H
        clear H
        go_upto_if 39 with (first | (go_at_call 142; (with_reducible refine (impl_coming.calls kj5 a0 a1 a2 a3 x11_5 t288 _ A11.out).mono ?_); rintro e w' ⟨rfl, ⟨nd, rfl⟩⟩; (try first | exact ⟨rfl, _, World.drewN_drewN _ _ _⟩ | exact ⟨rfl, _, Eq.trans (World.drewN_drewN _ _ _) (congrArg (World.drewN _) (Nat.add_assoc _ _ _))⟩)) | (go_at_call 141; (with_reducible refine (impl_isLeft.calls a0 t289 _ A15.out).mono ?_); rintro e w' ⟨rfl, ⟨nd, rfl⟩⟩; (try first | exact ⟨rfl, _, World.drewN_drewN _ _ _⟩ | exact ⟨rfl, _, Eq.trans (World.drewN_drewN _ _ _) (congrArg (World.drewN _) (Nat.add_assoc _ _ _))⟩)))
        repeat (go_quiet (first | (go_at_call 142; (with_reducible refine (impl_coming.calls kj5 a0 a1 a2 a3 x11_5 t288 _ A11.out).mono ?_); rintro e w' ⟨rfl, ⟨nd, rfl⟩⟩; (try first | exact ⟨rfl, _, World.drewN_drewN _ _ _⟩ | exact ⟨rfl, _, Eq.trans (World.drewN_drewN _ _ _) (congrArg (World.drewN _) (Nat.add_assoc _ _ _))⟩)) | (go_at_call 141; (with_reducible refine (impl_isLeft.calls a0 t289 _ A15.out).mono ?_); rintro e w' ⟨rfl, ⟨nd, rfl⟩⟩; (try first | exact ⟨rfl, _, World.drewN_drewN _ _ _⟩ | exact ⟨rfl, _, Eq.trans (World.drewN_drewN _ _ _) (congrArg (World.drewN _) (Nat.add_assoc _ _ _))⟩))); go_upto_if 39 with (first | (go_at_call 142; (with_reducible refine (impl_coming.calls kj5 a0 a1 a2 a3 x11_5 t288 _ A11.out).mono ?_); rintro e w' ⟨rfl, ⟨nd, rfl⟩⟩; (try first | exact ⟨rfl, _, World.drewN_drewN _ _ _⟩ | exact ⟨rfl, _, Eq.trans (World.drewN_drewN _ _ _) (congrArg (World.drewN _) (Nat.add_assoc _ _ _))⟩)) | (go_at_call 141; (with_reducible refine (impl_isLeft.calls a0 t289 _ A15.out).mono ?_); rintro e w' ⟨rfl, ⟨nd, rfl⟩⟩; (try first | exact ⟨rfl, _, World.drewN_drewN _ _ _⟩ | exact ⟨rfl, _, Eq.trans (World.drewN_drewN _ _ _) (congrArg (World.drewN _) (Nat.add_assoc _ _ _))⟩))))
        (try simp only [Act.put, List.setIfInBounds_toArray, List.set_cons_zero, List.set_cons_succ])
        go_cut [13] (fun v13 wc => ∃ (kq : Nat) (x13_15 : Int), v13 = .int .i64 x13_15 ∧ Aside0 (impl_shiftOnce.j1 kq a0 a1 a2 a3 (ji12) x11_5 x13_15 = some (r1, r2)) ∧ Aside0 (kq ≤ kj5) ∧ Drawn0 w wc)
        case first =>
          have H := HC16.out
          clear HC16
          by_cases c17 : t289 = true
          · subst c17
            have H1 : ((impl_limitOf.f a1).bind fun t290 => (impl_shiftOnce.j1 kj5 a0 a1 a2 a3 (ji12) x11_5 (Go.bits .or .i64 (Go.bits .and .i64 (wrap64 (a3 * 2)) (wrap64 (t290 - 1))) t288))) = some (r1, r2) := by rw [if_pos rfl] at H; exact H
            clear H
            have H := H1
            clear H1
            replace H := Option.bind_eq_some_iff.mp H
            obtain ⟨t290, A180, H⟩ := H
            replace H : (impl_shiftOnce.j1 kj5 a0 a1 a2 a3 (ji12) x11_5 (Go.bits .or .i64 (Go.bits .and .i64 (wrap64 (a3 * 2)) (wrap64 (t290 - 1))) t288)) = some (r1, r2) := H
            have A18 := Aside0.mk A180
            clear A180
            have H' := Aside0.mk H
            clear H
            go_wp2_with (first | (go_at_call 143; (with_reducible refine (impl_limitOf.calls a1 t290 _ A18.out).mono ?_); rintro e w' ⟨rfl, ⟨nd, rfl⟩⟩; (try first | exact ⟨rfl, _, World.drewN_drewN _ _ _⟩ | exact ⟨rfl, _, Eq.trans (World.drewN_drewN _ _ _) (congrArg (World.drewN _) (Nat.add_assoc _ _ _))⟩)))
            repeat (go_quiet (first | (go_at_call 143; (with_reducible refine (impl_limitOf.calls a1 t290 _ A18.out).mono ?_); rintro e w' ⟨rfl, ⟨nd, rfl⟩⟩; (try first | exact ⟨rfl, _, World.drewN_drewN _ _ _⟩ | exact ⟨rfl, _, Eq.trans (World.drewN_drewN _ _ _) (congrArg (World.drewN _) (Nat.add_assoc _ _ _))⟩))); try go_wp2_with (first | (go_at_call 143; (with_reducible refine (impl_limitOf.calls a1 t290 _ A18.out).mono ?_); rintro e w' ⟨rfl, ⟨nd, rfl⟩⟩; (try first | exact ⟨rfl, _, World.drewN_drewN _ _ _⟩ | exact ⟨rfl, _, Eq.trans (World.drewN_drewN _ _ _) (congrArg (World.drewN _) (Nat.add_assoc _ _ _))⟩))))
            go_meet
            case rel => exact ⟨_, (Go.bits .or .i64 (Go.bits .and .i64 (wrap64 (a3 * 2)) (wrap64 (t290 - 1))) t288), (by first | rfl | (simp; done) | (simp [*]; done)), (by first | exact H' | (rw [hji10]; exact H') | (rw [hji12]; exact H') | (rw [hji14]; exact H') | (rw [hji24]; exact H') | (rw [hji26]; exact H') | (rw [hji33]; exact H') | (rw [hji35]; exact H') | (rw [hji8]; exact H')), ⟨by have := HJ5.out; first | omega | exact Nat.le_refl _⟩, by repeat (first | exact Drawn0.refl _ | apply Drawn0.step)⟩
          · replace c17 := Bool.eq_false_iff.mpr c17
            subst c17
            have H1 : (impl_shiftOnce.j1 kj5 a0 a1 a2 a3 (ji12) x11_5 (Go.bits .or .i64 (a3 / 2) (ji14))) = some (r1, r2) := by rw [if_neg (show ¬ (false = true) by decide)] at H; exact H
            clear H
            have H := H1
            clear H1
            have H' := Aside0.mk H
            clear H
            go_wp2
            repeat (go_quiet (fail); try go_wp2)
            go_meet
            case rel => exact ⟨_, (Go.bits .or .i64 (a3 / 2) (ji14)), (by first | rfl | (simp; done) | (simp only [← hji14] <;> (first | rfl | simp)) | (simp [*]; done)), (by first | exact H' | (rw [hji10]; exact H') | (rw [hji12]; exact H') | (rw [hji14]; exact H') | (rw [hji24]; exact H') | (rw [hji26]; exact H') | (rw [hji33]; exact H') | (rw [hji35]; exact H') | (rw [hji8]; exact H')), ⟨by have := HJ5.out; first | omega | exact Nat.le_refl _⟩, by repeat (first | exact Drawn0.refl _ | apply Drawn0.step)⟩
        case rest =>
          clear HC16
          try clear c1
          try clear p2
          try clear c5
          try clear p6
          try clear c7
          try clear c9
          try clear c9b0
          try clear c9b1
          try clear c11
          try clear c13
          try clear c13b0
          try clear c13b1
          try clear c17
          try clear p2
          try clear p6
          obtain ⟨kq, x13_15, rfl, HA, HJ15, ⟨mc15, rfl⟩⟩ := hcut
          cases kq with
          | zero => exact absurd HA.out (by simp [impl_shiftOnce.j1])
          | succ kj15 =>
            have H := HA.out
            clear HA
            simp only [impl_shiftOnce.j1] at H
            have HC19 := Aside0.mk H
            clear H
            go_upto_region 10 with (fail)
            repeat (go_quiet (fail); go_upto_region 10 with (fail))
            go_cut [55] (fun v55 wc => ∃ (kq : Nat) (x55_18 : Bool), v55 = .bool x55_18 ∧ Aside0 (impl_shiftOnce.j2 kq a0 a1 a2 a3 (ji12) x11_5 x13_15 (wrap64 (x11_5 * 16)) x55_18 = some (r1, r2)) ∧ Aside0 (kq ≤ kj15) ∧ Drawn0 w wc)
            case first =>
              have H := HC19.out
              clear HC19
              by_cases c20 : a0 = 4
              · rw [if_pos c20] at H
                have c20b0 : (a0 == 4) = true := beq_iff_eq.mpr c20
                have c20b1 : (a0 != 4) = false := bne_eq_false_iff_eq.mpr c20
                clear c20
                (first | rw [c20b0] | (simp only [i64_w, i32_w]; rw [c20b0]) | skip)
                have H' := Aside0.mk H
                clear H
                go_wp2
                repeat (go_quiet (fail); try go_wp2)
                go_meet
                case rel => exact ⟨_, (true), (by first | rfl | (simp; done) | (simp [*]; done)), (by first | exact H' | (rw [hji10]; exact H') | (rw [hji12]; exact H') | (rw [hji14]; exact H') | (rw [hji24]; exact H') | (rw [hji26]; exact H') | (rw [hji33]; exact H') | (rw [hji35]; exact H') | (rw [hji8]; exact H')), ⟨by have := HJ5.out; have := HJ15.out; first | omega | exact Nat.le_refl _⟩, by repeat (first | exact Drawn0.refl _ | apply Drawn0.step)⟩
              · rw [if_neg c20] at H
                have c20b0 : (a0 == 4) = false := beq_eq_false_iff_ne.mpr c20
                have c20b1 : (a0 != 4) = true := bne_iff_ne.mpr c20
                (first | rw [c20b0] | (simp only [i64_w, i32_w]; rw [c20b0]) | skip)
                have H' := Aside0.mk H
                clear H
                go_wp2
                repeat (go_quiet (fail); try go_wp2)
                go_meet
                case rel => exact ⟨_, ((a0 == 5)), (by first | rfl | (simp; done) | (simp [*]; done)), (by first | exact H' | (rw [hji10]; exact H') | (rw [hji12]; exact H') | (rw [hji14]; exact H') | (rw [hji24]; exact H') | (rw [hji26]; exact H') | (rw [hji33]; exact H') | (rw [hji35]; exact H') | (rw [hji8]; exact H')), ⟨by have := HJ5.out; have := HJ15.out; first | omega | exact Nat.le_refl _⟩, by repeat (first | exact Drawn0.refl _ | apply Drawn0.step)⟩
            case rest =>
              clear HC19
              try clear c1
              try clear c2
              try clear p2
              try clear c5
              try clear p6
              try clear c7
              try clear c9
              try clear c9b0
              try clear c9b1
              try clear c11
              try clear c13
              try clear c13b0
              try clear c13b1
              try clear c15
              try clear c17
              try clear c20
              try clear c20b0
              try clear c20b1
              try clear p2
              try clear p6
              obtain ⟨kq, x55_18, rfl, HA, HJ18, ⟨mc18, rfl⟩⟩ := hcut
              cases kq with
              | zero => exact absurd HA.out (by simp [impl_shiftOnce.j2])
              | succ kj18 =>
                have H := HA.out
                clear HA
                simp only [impl_shiftOnce.j2] at H
                by_cases c21 : x55_18 = true
                · subst c21
                  have H1 : (if a0 = 0 then (if 0 ≤ (ji12) then ((impl_flag.f ((shr .i64 x13_15 (ji12)) != (shr .i64 a3 (ji12))) 2).bind fun t291 => ((impl_signs.f a1 x13_15).bind fun t292 => (some (x13_15, Go.bits .or .i64 (Go.bits .or .i64 (Go.bits .or .i64 (wrap64 (x11_5 * 1)) (Go.bits .and .i64 a2 16)) t291) t292)))) else (none)) else ((impl_flag.f false 2).bind fun t293 => ((impl_signs.f a1 x13_15).bind fun t294 => (some (x13_15, Go.bits .or .i64 (Go.bits .or .i64 (Go.bits .or .i64 (wrap64 (x11_5 * 1)) (Go.bits .and .i64 a2 16)) t293) t294))))) = some (r1, r2) := by rw [if_pos rfl] at H; exact H
                  clear H
                  have H := H1
                  clear H1
                  by_cases c22 : a0 = 0
                  · rw [if_pos c22] at H
                    have c22b0 : (a0 == 0) = true := beq_iff_eq.mpr c22
                    have c22b1 : (a0 != 0) = false := bne_eq_false_iff_eq.mpr c22
                    clear c22
                    by_cases c23 : 0 ≤ (ji12)
                    · rw [if_pos c23] at H
                      have c23b0 := eq_true c23
                      have c23b1 : decide (0 ≤ (ji12)) = true := decide_eq_true c23
                      clear c23
                      obtain ⟨ji24, hji24⟩ : ∃ j_ : Int, (shr .i64 x13_15 (ji12)) = j_ := ⟨_, rfl⟩
                      replace H : ((impl_flag.f ((ji24) != (shr .i64 a3 (ji12))) 2).bind fun t291 => ((impl_signs.f a1 x13_15).bind fun t292 => (some (x13_15, Go.bits .or .i64 (Go.bits .or .i64 (Go.bits .or .i64 (wrap64 (x11_5 * 1)) (Go.bits .and .i64 a2 16)) t291) t292)))) = some (r1, r2) := by first | (rw [hji24] at H; exact H) | (simp only [hji24] at H ⊢; exact H)
                      have hji24_ : (x13_15 / 2 ^ min (ji12).toNat 64) = ji24 := hji24
                      have hji24z : (ji12) ≤ 64 → (x13_15 / 2 ^ (ji12).toNat) = ji24 := shr_small hji24
                      have c25b0 := eq_true (of_decide_eq_true (by first | (with_reducible assumption) | assumption) : 0 ≤ (ji12))
                      obtain ⟨ji26, hji26⟩ : ∃ j_ : Int, (shr .i64 a3 (ji12)) = j_ := ⟨_, rfl⟩
                      replace H : ((impl_flag.f ((ji24) != (ji26)) 2).bind fun t291 => ((impl_signs.f a1 x13_15).bind fun t292 => (some (x13_15, Go.bits .or .i64 (Go.bits .or .i64 (Go.bits .or .i64 (wrap64 (x11_5 * 1)) (Go.bits .and .i64 a2 16)) t291) t292)))) = some (r1, r2) := by first | (rw [hji26] at H; exact H) | (simp only [hji26] at H ⊢; exact H)
                      have hji26_ : (a3 / 2 ^ min (ji12).toNat 64) = ji26 := hji26
                      have hji26z : (ji12) ≤ 64 → (a3 / 2 ^ (ji12).toNat) = ji26 := shr_small hji26
                      replace H := Option.bind_eq_some_iff.mp H
                      obtain ⟨t291, A270, H⟩ := H
                      replace H : ((impl_signs.f a1 x13_15).bind fun t292 => (some (x13_15, Go.bits .or .i64 (Go.bits .or .i64 (Go.bits .or .i64 (wrap64 (x11_5 * 1)) (Go.bits .and .i64 a2 16)) t291) t292))) = some (r1, r2) := H
                      have A27 := Aside0.mk A270
                      clear A270
                      replace H := Option.bind_eq_some_iff.mp H
                      obtain ⟨t292, A280, H⟩ := H
                      replace H : (some (x13_15, Go.bits .or .i64 (Go.bits .or .i64 (Go.bits .or .i64 (wrap64 (x11_5 * 1)) (Go.bits .and .i64 a2 16)) t291) t292)) = some (r1, r2) := H
                      have A28 := Aside0.mk A280
                      clear A280
                      simp only [Option.some.injEq, Prod.mk.injEq] at H
                      obtain ⟨rfl, rfl⟩ := H
                      go_wp2_with (first | (go_at_call 95; (with_reducible refine (impl_flag.calls ((ji24) != (ji26)) 2 t291 _ A27.out).mono ?_); rintro e w' ⟨rfl, ⟨nd, rfl⟩⟩; (try first | exact ⟨rfl, _, World.drewN_drewN _ _ _⟩ | exact ⟨rfl, _, Eq.trans (World.drewN_drewN _ _ _) (congrArg (World.drewN _) (Nat.add_assoc _ _ _))⟩)) | (go_at_call 140; (with_reducible refine (impl_signs.calls a1 x13_15 t292 _ A28.out).mono ?_); rintro e w' ⟨rfl, ⟨nd, rfl⟩⟩; (try first | exact ⟨rfl, _, World.drewN_drewN _ _ _⟩ | exact ⟨rfl, _, Eq.trans (World.drewN_drewN _ _ _) (congrArg (World.drewN _) (Nat.add_assoc _ _ _))⟩)))
                      repeat (go_quiet (first | (go_at_call 95; (with_reducible refine (impl_flag.calls ((ji24) != (ji26)) 2 t291 _ A27.out).mono ?_); rintro e w' ⟨rfl, ⟨nd, rfl⟩⟩; (try first | exact ⟨rfl, _, World.drewN_drewN _ _ _⟩ | exact ⟨rfl, _, Eq.trans (World.drewN_drewN _ _ _) (congrArg (World.drewN _) (Nat.add_assoc _ _ _))⟩)) | (go_at_call 140; (with_reducible refine (impl_signs.calls a1 x13_15 t292 _ A28.out).mono ?_); rintro e w' ⟨rfl, ⟨nd, rfl⟩⟩; (try first | exact ⟨rfl, _, World.drewN_drewN _ _ _⟩ | exact ⟨rfl, _, Eq.trans (World.drewN_drewN _ _ _) (congrArg (World.drewN _) (Nat.add_assoc _ _ _))⟩))); try go_wp2_with (first | (go_at_call 95; (with_reducible refine (impl_flag.calls ((ji24) != (ji26)) 2 t291 _ A27.out).mono ?_); rintro e w' ⟨rfl, ⟨nd, rfl⟩⟩; (try first | exact ⟨rfl, _, World.drewN_drewN _ _ _⟩ | exact ⟨rfl, _, Eq.trans (World.drewN_drewN _ _ _) (congrArg (World.drewN _) (Nat.add_assoc _ _ _))⟩)) | (go_at_call 140; (with_reducible refine (impl_signs.calls a1 x13_15 t292 _ A28.out).mono ?_); rintro e w' ⟨rfl, ⟨nd, rfl⟩⟩; (try first | exact ⟨rfl, _, World.drewN_drewN _ _ _⟩ | exact ⟨rfl, _, Eq.trans (World.drewN_drewN _ _ _) (congrArg (World.drewN _) (Nat.add_assoc _ _ _))⟩))))
                      go_ret2
                      exact ⟨by first | rfl | (simp; done) | (simp only [← hji12, ← hji14, ← hji24, ← hji26] <;> (first | rfl | simp)) | (simp [*]; done), by repeat (first | exact Drawn0.refl _ | apply Drawn0.step)⟩
                    · rw [if_neg c23] at H
                      exact absurd H (by simp)
                  · rw [if_neg c22] at H
                    have c22b0 : (a0 == 0) = false := beq_eq_false_iff_ne.mpr c22
                    have c22b1 : (a0 != 0) = true := bne_iff_ne.mpr c22
                    replace H := Option.bind_eq_some_iff.mp H
                    obtain ⟨t293, A290, H⟩ := H
                    replace H : ((impl_signs.f a1 x13_15).bind fun t294 => (some (x13_15, Go.bits .or .i64 (Go.bits .or .i64 (Go.bits .or .i64 (wrap64 (x11_5 * 1)) (Go.bits .and .i64 a2 16)) t293) t294))) = some (r1, r2) := H
                    have A29 := Aside0.mk A290
                    clear A290
                    replace H := Option.bind_eq_some_iff.mp H
                    obtain ⟨t294, A300, H⟩ := H
                    replace H : (some (x13_15, Go.bits .or .i64 (Go.bits .or .i64 (Go.bits .or .i64 (wrap64 (x11_5 * 1)) (Go.bits .and .i64 a2 16)) t293) t294)) = some (r1, r2) := H
                    have A30 := Aside0.mk A300
                    clear A300
                    simp only [Option.some.injEq, Prod.mk.injEq] at H
                    obtain ⟨rfl, rfl⟩ := H
                    go_wp2_with (first | (go_at_call 95; (with_reducible refine (impl_flag.calls false 2 t293 _ A29.out).mono ?_); rintro e w' ⟨rfl, ⟨nd, rfl⟩⟩; (try first | exact ⟨rfl, _, World.drewN_drewN _ _ _⟩ | exact ⟨rfl, _, Eq.trans (World.drewN_drewN _ _ _) (congrArg (World.drewN _) (Nat.add_assoc _ _ _))⟩)) | (go_at_call 140; (with_reducible refine (impl_signs.calls a1 x13_15 t294 _ A30.out).mono ?_); rintro e w' ⟨rfl, ⟨nd, rfl⟩⟩; (try first | exact ⟨rfl, _, World.drewN_drewN _ _ _⟩ | exact ⟨rfl, _, Eq.trans (World.drewN_drewN _ _ _) (congrArg (World.drewN _) (Nat.add_assoc _ _ _))⟩)))
                    repeat (go_quiet (first | (go_at_call 95; (with_reducible refine (impl_flag.calls false 2 t293 _ A29.out).mono ?_); rintro e w' ⟨rfl, ⟨nd, rfl⟩⟩; (try first | exact ⟨rfl, _, World.drewN_drewN _ _ _⟩ | exact ⟨rfl, _, Eq.trans (World.drewN_drewN _ _ _) (congrArg (World.drewN _) (Nat.add_assoc _ _ _))⟩)) | (go_at_call 140; (with_reducible refine (impl_signs.calls a1 x13_15 t294 _ A30.out).mono ?_); rintro e w' ⟨rfl, ⟨nd, rfl⟩⟩; (try first | exact ⟨rfl, _, World.drewN_drewN _ _ _⟩ | exact ⟨rfl, _, Eq.trans (World.drewN_drewN _ _ _) (congrArg (World.drewN _) (Nat.add_assoc _ _ _))⟩))); try go_wp2_with (first | (go_at_call 95; (with_reducible refine (impl_flag.calls false 2 t293 _ A29.out).mono ?_); rintro e w' ⟨rfl, ⟨nd, rfl⟩⟩; (try first | exact ⟨rfl, _, World.drewN_drewN _ _ _⟩ | exact ⟨rfl, _, Eq.trans (World.drewN_drewN _ _ _) (congrArg (World.drewN _) (Nat.add_assoc _ _ _))⟩)) | (go_at_call 140; (with_reducible refine (impl_signs.calls a1 x13_15 t294 _ A30.out).mono ?_); rintro e w' ⟨rfl, ⟨nd, rfl⟩⟩; (try first | exact ⟨rfl, _, World.drewN_drewN _ _ _⟩ | exact ⟨rfl, _, Eq.trans (World.drewN_drewN _ _ _) (congrArg (World.drewN _) (Nat.add_assoc _ _ _))⟩))))
                    go_ret2
                    exact ⟨by first | rfl | (simp; done) | (simp only [← hji12, ← hji14] <;> (first | rfl | simp)) | (simp [*]; done), by repeat (first | exact Drawn0.refl _ | apply Drawn0.step)⟩
                · replace c21 := Bool.eq_false_iff.mpr c21
                  subst c21
                  have H1 : (if a0 = 0 then (if 0 ≤ (ji12) then ((impl_flag.f ((shr .i64 x13_15 (ji12)) != (shr .i64 a3 (ji12))) 2).bind fun t295 => ((impl_signs.f a1 x13_15).bind fun t296 => (some (x13_15, Go.bits .or .i64 (Go.bits .or .i64 (Go.bits .or .i64 (wrap64 (x11_5 * 1)) (wrap64 (x11_5 * 16))) t295) t296)))) else (none)) else ((impl_flag.f false 2).bind fun t297 => ((impl_signs.f a1 x13_15).bind fun t298 => (some (x13_15, Go.bits .or .i64 (Go.bits .or .i64 (Go.bits .or .i64 (wrap64 (x11_5 * 1)) (wrap64 (x11_5 * 16))) t297) t298))))) = some (r1, r2) := by rw [if_neg (show ¬ (false = true) by decide)] at H; exact H
                  clear H
                  have H := H1
                  clear H1
                  by_cases c31 : a0 = 0
                  · rw [if_pos c31] at H
                    have c31b0 : (a0 == 0) = true := beq_iff_eq.mpr c31
                    have c31b1 : (a0 != 0) = false := bne_eq_false_iff_eq.mpr c31
                    clear c31
                    by_cases c32 : 0 ≤ (ji12)
                    · rw [if_pos c32] at H
                      have c32b0 := eq_true c32
                      have c32b1 : decide (0 ≤ (ji12)) = true := decide_eq_true c32
                      clear c32
                      obtain ⟨ji33, hji33⟩ : ∃ j_ : Int, (shr .i64 x13_15 (ji12)) = j_ := ⟨_, rfl⟩
                      replace H : ((impl_flag.f ((ji33) != (shr .i64 a3 (ji12))) 2).bind fun t295 => ((impl_signs.f a1 x13_15).bind fun t296 => (some (x13_15, Go.bits .or .i64 (Go.bits .or .i64 (Go.bits .or .i64 (wrap64 (x11_5 * 1)) (wrap64 (x11_5 * 16))) t295) t296)))) = some (r1, r2) := by first | (rw [hji33] at H; exact H) | (simp only [hji33] at H ⊢; exact H)
                      have hji33_ : (x13_15 / 2 ^ min (ji12).toNat 64) = ji33 := hji33
                      have hji33z : (ji12) ≤ 64 → (x13_15 / 2 ^ (ji12).toNat) = ji33 := shr_small hji33
                      have c34b0 := eq_true (of_decide_eq_true (by first | (with_reducible assumption) | assumption) : 0 ≤ (ji12))
                      obtain ⟨ji35, hji35⟩ : ∃ j_ : Int, (shr .i64 a3 (ji12)) = j_ := ⟨_, rfl⟩
                      replace H : ((impl_flag.f ((ji33) != (ji35)) 2).bind fun t295 => ((impl_signs.f a1 x13_15).bind fun t296 => (some (x13_15, Go.bits .or .i64 (Go.bits .or .i64 (Go.bits .or .i64 (wrap64 (x11_5 * 1)) (wrap64 (x11_5 * 16))) t295) t296)))) = some (r1, r2) := by first | (rw [hji35] at H; exact H) | (simp only [hji35] at H ⊢; exact H)
                      have hji35_ : (a3 / 2 ^ min (ji12).toNat 64) = ji35 := hji35
                      have hji35z : (ji12) ≤ 64 → (a3 / 2 ^ (ji12).toNat) = ji35 := shr_small hji35
                      replace H := Option.bind_eq_some_iff.mp H
                      obtain ⟨t295, A360, H⟩ := H
                      replace H : ((impl_signs.f a1 x13_15).bind fun t296 => (some (x13_15, Go.bits .or .i64 (Go.bits .or .i64 (Go.bits .or .i64 (wrap64 (x11_5 * 1)) (wrap64 (x11_5 * 16))) t295) t296))) = some (r1, r2) := H
                      have A36 := Aside0.mk A360
                      clear A360
                      replace H := Option.bind_eq_some_iff.mp H
                      obtain ⟨t296, A370, H⟩ := H
                      replace H : (some (x13_15, Go.bits .or .i64 (Go.bits .or .i64 (Go.bits .or .i64 (wrap64 (x11_5 * 1)) (wrap64 (x11_5 * 16))) t295) t296)) = some (r1, r2) := H
                      have A37 := Aside0.mk A370
                      clear A370
                      simp only [Option.some.injEq, Prod.mk.injEq] at H
                      obtain ⟨rfl, rfl⟩ := H
                      go_wp2_with (first | (go_at_call 95; (with_reducible refine (impl_flag.calls ((ji33) != (ji35)) 2 t295 _ A36.out).mono ?_); rintro e w' ⟨rfl, ⟨nd, rfl⟩⟩; (try first | exact ⟨rfl, _, World.drewN_drewN _ _ _⟩ | exact ⟨rfl, _, Eq.trans (World.drewN_drewN _ _ _) (congrArg (World.drewN _) (Nat.add_assoc _ _ _))⟩)) | (go_at_call 140; (with_reducible refine (impl_signs.calls a1 x13_15 t296 _ A37.out).mono ?_); rintro e w' ⟨rfl, ⟨nd, rfl⟩⟩; (try first | exact ⟨rfl, _, World.drewN_drewN _ _ _⟩ | exact ⟨rfl, _, Eq.trans (World.drewN_drewN _ _ _) (congrArg (World.drewN _) (Nat.add_assoc _ _ _))⟩)))
                      repeat (go_quiet (first | (go_at_call 95; (with_reducible refine (impl_flag.calls ((ji33) != (ji35)) 2 t295 _ A36.out).mono ?_); rintro e w' ⟨rfl, ⟨nd, rfl⟩⟩; (try first | exact ⟨rfl, _, World.drewN_drewN _ _ _⟩ | exact ⟨rfl, _, Eq.trans (World.drewN_drewN _ _ _) (congrArg (World.drewN _) (Nat.add_assoc _ _ _))⟩)) | (go_at_call 140; (with_reducible refine (impl_signs.calls a1 x13_15 t296 _ A37.out).mono ?_); rintro e w' ⟨rfl, ⟨nd, rfl⟩⟩; (try first | exact ⟨rfl, _, World.drewN_drewN _ _ _⟩ | exact ⟨rfl, _, Eq.trans (World.drewN_drewN _ _ _) (congrArg (World.drewN _) (Nat.add_assoc _ _ _))⟩))); try go_wp2_with (first | (go_at_call 95; (with_reducible refine (impl_flag.calls ((ji33) != (ji35)) 2 t295 _ A36.out).mono ?_); rintro e w' ⟨rfl, ⟨nd, rfl⟩⟩; (try first | exact ⟨rfl, _, World.drewN_drewN _ _ _⟩ | exact ⟨rfl, _, Eq.trans (World.drewN_drewN _ _ _) (congrArg (World.drewN _) (Nat.add_assoc _ _ _))⟩)) | (go_at_call 140; (with_reducible refine (impl_signs.calls a1 x13_15 t296 _ A37.out).mono ?_); rintro e w' ⟨rfl, ⟨nd, rfl⟩⟩; (try first | exact ⟨rfl, _, World.drewN_drewN _ _ _⟩ | exact ⟨rfl, _, Eq.trans (World.drewN_drewN _ _ _) (congrArg (World.drewN _) (Nat.add_assoc _ _ _))⟩))))
                      go_ret2
                      exact ⟨by first | rfl | (simp; done) | (simp only [← hji12, ← hji14, ← hji33, ← hji35] <;> (first | rfl | simp)) | (simp [*]; done), by repeat (first | exact Drawn0.refl _ | apply Drawn0.step)⟩
                    · rw [if_neg c32] at H
                      exact absurd H (by simp)
                  · rw [if_neg c31] at H
                    have c31b0 : (a0 == 0) = false := beq_eq_false_iff_ne.mpr c31
                    have c31b1 : (a0 != 0) = true := bne_iff_ne.mpr c31
                    replace H := Option.bind_eq_some_iff.mp H
                    obtain ⟨t297, A380, H⟩ := H
                    replace H : ((impl_signs.f a1 x13_15).bind fun t298 => (some (x13_15, Go.bits .or .i64 (Go.bits .or .i64 (Go.bits .or .i64 (wrap64 (x11_5 * 1)) (wrap64 (x11_5 * 16))) t297) t298))) = some (r1, r2) := H
                    have A38 := Aside0.mk A380
                    clear A380
                    replace H := Option.bind_eq_some_iff.mp H
                    obtain ⟨t298, A390, H⟩ := H
                    replace H : (some (x13_15, Go.bits .or .i64 (Go.bits .or .i64 (Go.bits .or .i64 (wrap64 (x11_5 * 1)) (wrap64 (x11_5 * 16))) t297) t298)) = some (r1, r2) := H
                    have A39 := Aside0.mk A390
                    clear A390
                    simp only [Option.some.injEq, Prod.mk.injEq] at H
                    obtain ⟨rfl, rfl⟩ := H
                    go_wp2_with (first | (go_at_call 95; (with_reducible refine (impl_flag.calls false 2 t297 _ A38.out).mono ?_); rintro e w' ⟨rfl, ⟨nd, rfl⟩⟩; (try first | exact ⟨rfl, _, World.drewN_drewN _ _ _⟩ | exact ⟨rfl, _, Eq.trans (World.drewN_drewN _ _ _) (congrArg (World.drewN _) (Nat.add_assoc _ _ _))⟩)) | (go_at_call 140; (with_reducible refine (impl_signs.calls a1 x13_15 t298 _ A39.out).mono ?_); rintro e w' ⟨rfl, ⟨nd, rfl⟩⟩; (try first | exact ⟨rfl, _, World.drewN_drewN _ _ _⟩ | exact ⟨rfl, _, Eq.trans (World.drewN_drewN _ _ _) (congrArg (World.drewN _) (Nat.add_assoc _ _ _))⟩)))
                    repeat (go_quiet (first | (go_at_call 95; (with_reducible refine (impl_flag.calls false 2 t297 _ A38.out).mono ?_); rintro e w' ⟨rfl, ⟨nd, rfl⟩⟩; (try first | exact ⟨rfl, _, World.drewN_drewN _ _ _⟩ | exact ⟨rfl, _, Eq.trans (World.drewN_drewN _ _ _) (congrArg (World.drewN _) (Nat.add_assoc _ _ _))⟩)) | (go_at_call 140; (with_reducible refine (impl_signs.calls a1 x13_15 t298 _ A39.out).mono ?_); rintro e w' ⟨rfl, ⟨nd, rfl⟩⟩; (try first | exact ⟨rfl, _, World.drewN_drewN _ _ _⟩ | exact ⟨rfl, _, Eq.trans (World.drewN_drewN _ _ _) (congrArg (World.drewN _) (Nat.add_assoc _ _ _))⟩))); try go_wp2_with (first | (go_at_call 95; (with_reducible refine (impl_flag.calls false 2 t297 _ A38.out).mono ?_); rintro e w' ⟨rfl, ⟨nd, rfl⟩⟩; (try first | exact ⟨rfl, _, World.drewN_drewN _ _ _⟩ | exact ⟨rfl, _, Eq.trans (World.drewN_drewN _ _ _) (congrArg (World.drewN _) (Nat.add_assoc _ _ _))⟩)) | (go_at_call 140; (with_reducible refine (impl_signs.calls a1 x13_15 t298 _ A39.out).mono ?_); rintro e w' ⟨rfl, ⟨nd, rfl⟩⟩; (try first | exact ⟨rfl, _, World.drewN_drewN _ _ _⟩ | exact ⟨rfl, _, Eq.trans (World.drewN_drewN _ _ _) (congrArg (World.drewN _) (Nat.add_assoc _ _ _))⟩))))
                    go_ret2
                    exact ⟨by first | rfl | (simp; done) | (simp only [← hji12, ← hji14] <;> (first | rfl | simp)) | (simp [*]; done), by repeat (first | exact Drawn0.refl _ | apply Drawn0.step)⟩
      · rw [if_neg c13] at H
        exact absurd H (by simp)

/-! ### impl_made: function 66 -/
def impl_made.f (k : Nat) (a0 : Int) (a1_0 : Int) (a1_1 : Int) (a1_2 : Int) (a1_3 : Int) : Option (Int) := if a1_0 = 1 then ((impl_addFlags.f a1_1 0 a1_2 a1_3).bind fun bt300 => (some bt300.2)) else (if a1_0 = 2 then ((impl_subFlags.f a1_1 0 a1_2 a1_3).bind fun bt302 => (some bt302.2)) else (if a1_0 = 3 then ((impl_cmpFlags.f a1_1 a0 a1_2 a1_3).bind fun t304 => (some t304)) else (if a1_0 = 4 then ((impl_logicFlags.f a1_1 a0 a1_2).bind fun t305 => (some t305)) else ((impl_shiftOnce.f k 4 a1_1 a0 a1_2).bind fun bt306 => (some bt306.2)))))
theorem impl_made.mono : ∀ a0 a1 a2 a3 a4 k, LeO (impl_made.f k a0 a1 a2 a3 a4) (impl_made.f (k + 1) a0 a1 a2 a3 a4) := by
  intro a0 a1 a2 a3 a4 k
  unfold impl_made.f
  repeat' first
      | (with_reducible exact impl_shiftOnce.mono _ _ _ _ _)
      | (with_reducible exact LeO.refl _)
      | (with_reducible exact LeO.none _)
      | (with_reducible refine LeO.ite ?_ ?_)
      | (with_reducible refine LeO.bind ?_ (fun _ => ?_))
      | exact impl_shiftOnce.mono _ _ _ _ _
      | exact LeO.none _
      | refine LeO.ite ?_ ?_
      | refine LeO.bind ?_ (fun _ => ?_)
set_option maxHeartbeats 8000000 in
set_option maxRecDepth 100000 in
theorem impl_made.calls (k : Nat) (a0 : Int) (a1_0 : Int) (a1_1 : Int) (a1_2 : Int) (a1_3 : Int) (r : Int) (w : World) (h : impl_made.f k a0 a1_0 a1_1 a1_2 a1_3 = some r) :
    Calls Try.prog 66 #[.int .i64 a0, .agg #[.int .i64 a1_0, .int .i64 a1_1, .int .i64 a1_2, .int .i64 a1_3]] w fun e w' => e = .returned (.int .i64 r) ∧ Below w.heap.size w w' := by
  have hu25 := Try.underlying25
  have HB := Aside0.mk (Below.refl w.heap.size w)
  have H : (if a1_0 = 1 then ((impl_addFlags.f a1_1 0 a1_2 a1_3).bind fun bt300 => (some bt300.2)) else (if a1_0 = 2 then ((impl_subFlags.f a1_1 0 a1_2 a1_3).bind fun bt302 => (some bt302.2)) else (if a1_0 = 3 then ((impl_cmpFlags.f a1_1 a0 a1_2 a1_3).bind fun t304 => (some t304)) else (if a1_0 = 4 then ((impl_logicFlags.f a1_1 a0 a1_2).bind fun t305 => (some t305)) else ((impl_shiftOnce.f k 4 a1_1 a0 a1_2).bind fun bt306 => (some bt306.2)))))) = some r := h
  clear h
  by_cases c3 : a1_0 = 1
  · rw [if_pos c3] at H
    have c3b0 : (a1_0 == 1) = true := beq_iff_eq.mpr c3
    have c3b1 : (a1_0 != 1) = false := bne_eq_false_iff_eq.mpr c3
    clear c3
    replace H := Option.bind_eq_some_iff.mp H
    obtain ⟨⟨t300, t301⟩, A40, H⟩ := H
    replace H : (some t301) = some r := H
    have A4 := Aside0.mk A40
    clear A40
    obtain rfl := Option.some.inj H
    go_enter Try.func66, Try.ntmps66
    go_wp2_with (first | ((with_reducible refine gate_dst (N := 3) rfl ?_); refine box_event ?hg (N := 3) ?hd (cs := #[.int .i64 a1_0, .int .i64 a1_1, .int .i64 a1_2, .int .i64 a1_3]) (t := 25) ?hr ?_; (case hd => rfl); (case hg => rfl); (case hr => first | (go_simp; done) | (go_simp; rfl)); intro gb299 hg w5 hbox hb; have n0_ := Aside0.mk (below_step (by repeat (first | (with_reducible first | exact HB.out | apply below_alloc | apply pw_below_drewN | apply below_drew1) | exact HB.out)) hb); have n1_ := Aside0.mk (hbox); have n2_ := Aside0.mk ((by rw [hg]; exact (below_size (by repeat (first | (with_reducible first | exact HB.out | apply below_alloc | apply pw_below_drewN | apply below_drew1) | exact HB.out))) : w.heap.size ≤ gb299)); have n3_ := Aside0.mk ((by rw [hg]; exact (below_size (by repeat (first | (with_reducible first | exact HB.out | apply below_alloc | apply pw_below_drewN | apply below_drew1) | exact HB.out))) : w.heap.size ≤ gb299)); clear HB; have HB := n0_; have BK299 := n1_; have GW299 := n2_; have GE299 := n3_; clear n0_ n1_ n2_ n3_; clear hb hbox hg; have hcz6_0 : w5.cell? ⟨gb299, 0, none⟩ = some (.int .i64 a1_0) := (blk_cell BK299.out 0).trans rfl; have hcz6_1 : w5.cell? ⟨gb299, 1, none⟩ = some (.int .i64 a1_1) := (blk_cell BK299.out 1).trans rfl; have hcz6_2 : w5.cell? ⟨gb299, 2, none⟩ = some (.int .i64 a1_2) := (blk_cell BK299.out 2).trans rfl; have hcz6_3 : w5.cell? ⟨gb299, 3, none⟩ = some (.int .i64 a1_3) := (blk_cell BK299.out 3).trans rfl; have hfz6_0 := blk_frozen BK299.out 0; have hfz6_1 := blk_frozen BK299.out 1; have hfz6_2 := blk_frozen BK299.out 2; have hfz6_3 := blk_frozen BK299.out 3) | ((with_reducible refine gate_callee (f := 109) rfl ?_); refine goesL_ (some 26) rfl rfl Try.func109 (by kernel_rfl) rfl #[.int .i64 a1_1, .int .i64 0, .int .i64 a1_2, .int .i64 a1_3] rfl (by (try simp only [List.map_toArray, List.map_cons, List.map_nil]); first | done | rfl | (simp only [List.length_drop, List.length_take]; rfl)) ?_; (with_reducible refine (impl_addFlags.calls a1_1 0 a1_2 a1_3 t300 t301 _ A4.out).mono ?_); rintro e w' ⟨rfl, ⟨nd, rfl⟩⟩; refine ⟨_, rfl, ?_⟩))
    go_ret
    exact ⟨by first | rfl | (simp [errW_none, errW_some] <;> rfl) | (simp [*, errW_none, errW_some] <;> rfl), by repeat (first | (with_reducible first | exact HB.out | apply below_alloc | apply pw_below_drewN | apply below_drew1 | refine below_set ?_ GE299.out) | exact HB.out)⟩
  · rw [if_neg c3] at H
    have c3b0 : (a1_0 == 1) = false := beq_eq_false_iff_ne.mpr c3
    have c3b1 : (a1_0 != 1) = true := bne_iff_ne.mpr c3
    by_cases c7 : a1_0 = 2
    · rw [if_pos c7] at H
      have c7b0 : (a1_0 == 2) = true := beq_iff_eq.mpr c7
      have c7b1 : (a1_0 != 2) = false := bne_eq_false_iff_eq.mpr c7
      clear c7
      replace H := Option.bind_eq_some_iff.mp H
      obtain ⟨⟨t302, t303⟩, A80, H⟩ := H
      replace H : (some t303) = some r := H
      have A8 := Aside0.mk A80
      clear A80
      obtain rfl := Option.some.inj H
      go_enter Try.func66, Try.ntmps66
      go_wp2_with (first | ((with_reducible refine gate_dst (N := 3) rfl ?_); refine box_event ?hg (N := 3) ?hd (cs := #[.int .i64 a1_0, .int .i64 a1_1, .int .i64 a1_2, .int .i64 a1_3]) (t := 25) ?hr ?_; (case hd => rfl); (case hg => rfl); (case hr => first | (go_simp; done) | (go_simp; rfl)); intro gb299 hg w9 hbox hb; have n0_ := Aside0.mk (below_step (by repeat (first | (with_reducible first | exact HB.out | apply below_alloc | apply pw_below_drewN | apply below_drew1) | exact HB.out)) hb); have n1_ := Aside0.mk (hbox); have n2_ := Aside0.mk ((by rw [hg]; exact (below_size (by repeat (first | (with_reducible first | exact HB.out | apply below_alloc | apply pw_below_drewN | apply below_drew1) | exact HB.out))) : w.heap.size ≤ gb299)); have n3_ := Aside0.mk ((by rw [hg]; exact (below_size (by repeat (first | (with_reducible first | exact HB.out | apply below_alloc | apply pw_below_drewN | apply below_drew1) | exact HB.out))) : w.heap.size ≤ gb299)); clear HB; have HB := n0_; have BK299 := n1_; have GW299 := n2_; have GE299 := n3_; clear n0_ n1_ n2_ n3_; clear hb hbox hg; have hcz10_0 : w9.cell? ⟨gb299, 0, none⟩ = some (.int .i64 a1_0) := (blk_cell BK299.out 0).trans rfl; have hcz10_1 : w9.cell? ⟨gb299, 1, none⟩ = some (.int .i64 a1_1) := (blk_cell BK299.out 1).trans rfl; have hcz10_2 : w9.cell? ⟨gb299, 2, none⟩ = some (.int .i64 a1_2) := (blk_cell BK299.out 2).trans rfl; have hcz10_3 : w9.cell? ⟨gb299, 3, none⟩ = some (.int .i64 a1_3) := (blk_cell BK299.out 3).trans rfl; have hfz10_0 := blk_frozen BK299.out 0; have hfz10_1 := blk_frozen BK299.out 1; have hfz10_2 := blk_frozen BK299.out 2; have hfz10_3 := blk_frozen BK299.out 3) | ((with_reducible refine gate_callee (f := 110) rfl ?_); refine goesL_ (some 38) rfl rfl Try.func110 (by kernel_rfl) rfl #[.int .i64 a1_1, .int .i64 0, .int .i64 a1_2, .int .i64 a1_3] rfl (by (try simp only [List.map_toArray, List.map_cons, List.map_nil]); first | done | rfl | (simp only [List.length_drop, List.length_take]; rfl)) ?_; (with_reducible refine (impl_subFlags.calls a1_1 0 a1_2 a1_3 t302 t303 _ A8.out).mono ?_); rintro e w' ⟨rfl, ⟨nd, rfl⟩⟩; refine ⟨_, rfl, ?_⟩))
      go_ret
      exact ⟨by first | rfl | (simp [errW_none, errW_some] <;> rfl) | (simp [*, errW_none, errW_some] <;> rfl), by repeat (first | (with_reducible first | exact HB.out | apply below_alloc | apply pw_below_drewN | apply below_drew1 | refine below_set ?_ GE299.out) | exact HB.out)⟩
    · rw [if_neg c7] at H
      have c7b0 : (a1_0 == 2) = false := beq_eq_false_iff_ne.mpr c7
      have c7b1 : (a1_0 != 2) = true := bne_iff_ne.mpr c7
      by_cases c11 : a1_0 = 3
      · rw [if_pos c11] at H
        have c11b0 : (a1_0 == 3) = true := beq_iff_eq.mpr c11
        have c11b1 : (a1_0 != 3) = false := bne_eq_false_iff_eq.mpr c11
        clear c11
        replace H := Option.bind_eq_some_iff.mp H
        obtain ⟨t304, A120, H⟩ := H
        replace H : (some t304) = some r := H
        have A12 := Aside0.mk A120
        clear A120
        obtain rfl := Option.some.inj H
        go_enter Try.func66, Try.ntmps66
        go_wp2_with (first | ((with_reducible refine gate_dst (N := 3) rfl ?_); refine box_event ?hg (N := 3) ?hd (cs := #[.int .i64 a1_0, .int .i64 a1_1, .int .i64 a1_2, .int .i64 a1_3]) (t := 25) ?hr ?_; (case hd => rfl); (case hg => rfl); (case hr => first | (go_simp; done) | (go_simp; rfl)); intro gb299 hg w13 hbox hb; have n0_ := Aside0.mk (below_step (by repeat (first | (with_reducible first | exact HB.out | apply below_alloc | apply pw_below_drewN | apply below_drew1) | exact HB.out)) hb); have n1_ := Aside0.mk (hbox); have n2_ := Aside0.mk ((by rw [hg]; exact (below_size (by repeat (first | (with_reducible first | exact HB.out | apply below_alloc | apply pw_below_drewN | apply below_drew1) | exact HB.out))) : w.heap.size ≤ gb299)); have n3_ := Aside0.mk ((by rw [hg]; exact (below_size (by repeat (first | (with_reducible first | exact HB.out | apply below_alloc | apply pw_below_drewN | apply below_drew1) | exact HB.out))) : w.heap.size ≤ gb299)); clear HB; have HB := n0_; have BK299 := n1_; have GW299 := n2_; have GE299 := n3_; clear n0_ n1_ n2_ n3_; clear hb hbox hg; have hcz14_0 : w13.cell? ⟨gb299, 0, none⟩ = some (.int .i64 a1_0) := (blk_cell BK299.out 0).trans rfl; have hcz14_1 : w13.cell? ⟨gb299, 1, none⟩ = some (.int .i64 a1_1) := (blk_cell BK299.out 1).trans rfl; have hcz14_2 : w13.cell? ⟨gb299, 2, none⟩ = some (.int .i64 a1_2) := (blk_cell BK299.out 2).trans rfl; have hcz14_3 : w13.cell? ⟨gb299, 3, none⟩ = some (.int .i64 a1_3) := (blk_cell BK299.out 3).trans rfl; have hfz14_0 := blk_frozen BK299.out 0; have hfz14_1 := blk_frozen BK299.out 1; have hfz14_2 := blk_frozen BK299.out 2; have hfz14_3 := blk_frozen BK299.out 3) | ((with_reducible refine gate_callee (f := 111) rfl ?_); refine goesL_ (some 50) rfl rfl Try.func111 (by kernel_rfl) rfl #[.int .i64 a1_1, .int .i64 a0, .int .i64 a1_2, .int .i64 a1_3] rfl (by (try simp only [List.map_toArray, List.map_cons, List.map_nil]); first | done | rfl | (simp only [List.length_drop, List.length_take]; rfl)) ?_; (with_reducible refine (impl_cmpFlags.calls a1_1 a0 a1_2 a1_3 t304 _ A12.out).mono ?_); rintro e w' ⟨rfl, ⟨nd, rfl⟩⟩; refine ⟨_, rfl, ?_⟩))
        go_ret
        exact ⟨by first | rfl | (simp [errW_none, errW_some] <;> rfl) | (simp [*, errW_none, errW_some] <;> rfl), by repeat (first | (with_reducible first | exact HB.out | apply below_alloc | apply pw_below_drewN | apply below_drew1 | refine below_set ?_ GE299.out) | exact HB.out)⟩
      · rw [if_neg c11] at H
        have c11b0 : (a1_0 == 3) = false := beq_eq_false_iff_ne.mpr c11
        have c11b1 : (a1_0 != 3) = true := bne_iff_ne.mpr c11
        by_cases c15 : a1_0 = 4
        · rw [if_pos c15] at H
          have c15b0 : (a1_0 == 4) = true := beq_iff_eq.mpr c15
          have c15b1 : (a1_0 != 4) = false := bne_eq_false_iff_eq.mpr c15
          clear c15
          replace H := Option.bind_eq_some_iff.mp H
          obtain ⟨t305, A160, H⟩ := H
          replace H : (some t305) = some r := H
          have A16 := Aside0.mk A160
          clear A160
          obtain rfl := Option.some.inj H
          go_enter Try.func66, Try.ntmps66
          go_wp2_with (first | ((with_reducible refine gate_dst (N := 3) rfl ?_); refine box_event ?hg (N := 3) ?hd (cs := #[.int .i64 a1_0, .int .i64 a1_1, .int .i64 a1_2, .int .i64 a1_3]) (t := 25) ?hr ?_; (case hd => rfl); (case hg => rfl); (case hr => first | (go_simp; done) | (go_simp; rfl)); intro gb299 hg w17 hbox hb; have n0_ := Aside0.mk (below_step (by repeat (first | (with_reducible first | exact HB.out | apply below_alloc | apply pw_below_drewN | apply below_drew1) | exact HB.out)) hb); have n1_ := Aside0.mk (hbox); have n2_ := Aside0.mk ((by rw [hg]; exact (below_size (by repeat (first | (with_reducible first | exact HB.out | apply below_alloc | apply pw_below_drewN | apply below_drew1) | exact HB.out))) : w.heap.size ≤ gb299)); have n3_ := Aside0.mk ((by rw [hg]; exact (below_size (by repeat (first | (with_reducible first | exact HB.out | apply below_alloc | apply pw_below_drewN | apply below_drew1) | exact HB.out))) : w.heap.size ≤ gb299)); clear HB; have HB := n0_; have BK299 := n1_; have GW299 := n2_; have GE299 := n3_; clear n0_ n1_ n2_ n3_; clear hb hbox hg; have hcz18_0 : w17.cell? ⟨gb299, 0, none⟩ = some (.int .i64 a1_0) := (blk_cell BK299.out 0).trans rfl; have hcz18_1 : w17.cell? ⟨gb299, 1, none⟩ = some (.int .i64 a1_1) := (blk_cell BK299.out 1).trans rfl; have hcz18_2 : w17.cell? ⟨gb299, 2, none⟩ = some (.int .i64 a1_2) := (blk_cell BK299.out 2).trans rfl; have hcz18_3 : w17.cell? ⟨gb299, 3, none⟩ = some (.int .i64 a1_3) := (blk_cell BK299.out 3).trans rfl; have hfz18_0 := blk_frozen BK299.out 0; have hfz18_1 := blk_frozen BK299.out 1; have hfz18_2 := blk_frozen BK299.out 2; have hfz18_3 := blk_frozen BK299.out 3) | ((with_reducible refine gate_callee (f := 112) rfl ?_); refine goesL_ (some 58) rfl rfl Try.func112 (by kernel_rfl) rfl #[.int .i64 a1_1, .int .i64 a0, .int .i64 a1_2] rfl (by (try simp only [List.map_toArray, List.map_cons, List.map_nil]); first | done | rfl | (simp only [List.length_drop, List.length_take]; rfl)) ?_; (with_reducible refine (impl_logicFlags.calls a1_1 a0 a1_2 t305 _ A16.out).mono ?_); rintro e w' ⟨rfl, ⟨nd, rfl⟩⟩; refine ⟨_, rfl, ?_⟩))
          go_ret
          exact ⟨by first | rfl | (simp [errW_none, errW_some] <;> rfl) | (simp [*, errW_none, errW_some] <;> rfl), by repeat (first | (with_reducible first | exact HB.out | apply below_alloc | apply pw_below_drewN | apply below_drew1 | refine below_set ?_ GE299.out) | exact HB.out)⟩
        · rw [if_neg c15] at H
          have c15b0 : (a1_0 == 4) = false := beq_eq_false_iff_ne.mpr c15
          have c15b1 : (a1_0 != 4) = true := bne_iff_ne.mpr c15
          replace H := Option.bind_eq_some_iff.mp H
          obtain ⟨⟨t306, t307⟩, A190, H⟩ := H
          replace H : (some t307) = some r := H
          have A19 := Aside0.mk A190
          clear A190
          obtain rfl := Option.some.inj H
          go_enter Try.func66, Try.ntmps66
          go_wp2_with (first | ((with_reducible refine gate_dst (N := 3) rfl ?_); refine box_event ?hg (N := 3) ?hd (cs := #[.int .i64 a1_0, .int .i64 a1_1, .int .i64 a1_2, .int .i64 a1_3]) (t := 25) ?hr ?_; (case hd => rfl); (case hg => rfl); (case hr => first | (go_simp; done) | (go_simp; rfl)); intro gb299 hg w20 hbox hb; have n0_ := Aside0.mk (below_step (by repeat (first | (with_reducible first | exact HB.out | apply below_alloc | apply pw_below_drewN | apply below_drew1) | exact HB.out)) hb); have n1_ := Aside0.mk (hbox); have n2_ := Aside0.mk ((by rw [hg]; exact (below_size (by repeat (first | (with_reducible first | exact HB.out | apply below_alloc | apply pw_below_drewN | apply below_drew1) | exact HB.out))) : w.heap.size ≤ gb299)); have n3_ := Aside0.mk ((by rw [hg]; exact (below_size (by repeat (first | (with_reducible first | exact HB.out | apply below_alloc | apply pw_below_drewN | apply below_drew1) | exact HB.out))) : w.heap.size ≤ gb299)); clear HB; have HB := n0_; have BK299 := n1_; have GW299 := n2_; have GE299 := n3_; clear n0_ n1_ n2_ n3_; clear hb hbox hg; have hcz21_0 : w20.cell? ⟨gb299, 0, none⟩ = some (.int .i64 a1_0) := (blk_cell BK299.out 0).trans rfl; have hcz21_1 : w20.cell? ⟨gb299, 1, none⟩ = some (.int .i64 a1_1) := (blk_cell BK299.out 1).trans rfl; have hcz21_2 : w20.cell? ⟨gb299, 2, none⟩ = some (.int .i64 a1_2) := (blk_cell BK299.out 2).trans rfl; have hcz21_3 : w20.cell? ⟨gb299, 3, none⟩ = some (.int .i64 a1_3) := (blk_cell BK299.out 3).trans rfl; have hfz21_0 := blk_frozen BK299.out 0; have hfz21_1 := blk_frozen BK299.out 1; have hfz21_2 := blk_frozen BK299.out 2; have hfz21_3 := blk_frozen BK299.out 3) | ((with_reducible refine gate_callee (f := 113) rfl ?_); refine goesL_ (some 14) rfl rfl Try.func113 (by kernel_rfl) rfl #[.int .i64 4, .int .i64 a1_1, .int .i64 a0, .int .i64 a1_2] rfl (by (try simp only [List.map_toArray, List.map_cons, List.map_nil]); first | done | rfl | (simp only [List.length_drop, List.length_take]; rfl)) ?_; (with_reducible refine (impl_shiftOnce.calls k 4 a1_1 a0 a1_2 t306 t307 _ A19.out).mono ?_); rintro e w' ⟨rfl, ⟨nd, rfl⟩⟩; refine ⟨_, rfl, ?_⟩))
          go_ret
          exact ⟨by first | rfl | (simp [errW_none, errW_some] <;> rfl) | (simp [*, errW_none, errW_some] <;> rfl), by repeat (first | (with_reducible first | exact HB.out | apply below_alloc | apply pw_below_drewN | apply below_drew1 | refine below_set ?_ GE299.out) | exact HB.out)⟩

end Go.Proofs.Ytopmacbjbjaekaa.G
