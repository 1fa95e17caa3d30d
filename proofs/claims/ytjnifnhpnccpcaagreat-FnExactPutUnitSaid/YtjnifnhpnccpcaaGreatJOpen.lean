/- What a law is handed, opened: a struct's cells, and what its slices hold. No condition: it is said of whatever can be read as data. -/
import Derived.ProofKit
import Derived.Deep.Slices
import Derived.Test.YtjnifnhpnccpcaaGreatJWMore
import Derived.Test.YtjnifnhpnccpcaaGreatJx0
namespace Go.Proofs.YtjnifnhpnccpcaaGreat.J
open Go.RowKit Go.Proofs.YtjnifnhpnccpcaaGreatW.PrintWords Go.Proofs.YtjnifnhpnccpcaaGreatW.PrintLast Go.Proofs.YtjnifnhpnccpcaaGreatW.PrintMore
set_option linter.unusedVariables false
set_option linter.unusedSimpArgs false
theorem k80_mk (w : World) (x : S80)  : k80.K w x [.int .i64 x.f0,.int .i64 x.f1,.int .i64 x.f2] := ⟨[.int .i64 x.f0],[.int .i64 x.f1,.int .i64 x.f2],rfl,rfl,⟨[.int .i64 x.f1],[.int .i64 x.f2],rfl,rfl,rfl⟩⟩
theorem k82_mk (w : World) (x : S82)  : k82.K w x [.int .i64 x.f0,.int .i64 x.f1,.int .i64 x.f2,.int .i64 x.f3.f0,.int .i64 x.f3.f1,.int .i64 x.f3.f2,.int .i64 x.f4] := ⟨[.int .i64 x.f0],[.int .i64 x.f1,.int .i64 x.f2,.int .i64 x.f3.f0,.int .i64 x.f3.f1,.int .i64 x.f3.f2,.int .i64 x.f4],rfl,rfl,⟨[.int .i64 x.f1],[.int .i64 x.f2,.int .i64 x.f3.f0,.int .i64 x.f3.f1,.int .i64 x.f3.f2,.int .i64 x.f4],rfl,rfl,⟨[.int .i64 x.f2],[.int .i64 x.f3.f0,.int .i64 x.f3.f1,.int .i64 x.f3.f2,.int .i64 x.f4],rfl,rfl,⟨[.int .i64 x.f3.f0,.int .i64 x.f3.f1,.int .i64 x.f3.f2],[.int .i64 x.f4],rfl,(k80_mk w x.f3 ),rfl⟩⟩⟩⟩
theorem k84_mk (w : World) (x : S84)  : k84.K w x [.int .i64 x.f0.f0,.int .i64 x.f0.f1,.int .i64 x.f0.f2,.int .i64 x.f0.f3.f0,.int .i64 x.f0.f3.f1,.int .i64 x.f0.f3.f2,.int .i64 x.f0.f4,.int .i64 x.f1,.bool x.f2] := ⟨[.int .i64 x.f0.f0,.int .i64 x.f0.f1,.int .i64 x.f0.f2,.int .i64 x.f0.f3.f0,.int .i64 x.f0.f3.f1,.int .i64 x.f0.f3.f2,.int .i64 x.f0.f4],[.int .i64 x.f1,.bool x.f2],rfl,(k82_mk w x.f0 ),⟨[.int .i64 x.f1],[.bool x.f2],rfl,rfl,rfl⟩⟩
theorem k27_mk (w : World) (x : S27) {A2 : Option Addr} {c2 : Nat} (l2 : x.f2.length ≤ c2) (g2 : k84.C w A2 x.f2.length x.f2) : k27.K w x [.int .i64 x.f0,.int .i64 x.f1,.slice A2 x.f2.length c2] := ⟨[.int .i64 x.f0],[.int .i64 x.f1,.slice A2 x.f2.length c2],rfl,rfl,⟨[.int .i64 x.f1],[.slice A2 x.f2.length c2],rfl,rfl,⟨A2,c2,rfl,l2,g2⟩⟩⟩
theorem k58_mk (w : World) (x : S58) {A2 : Option Addr} {c2 : Nat} (l2 : x.f0.f2.length ≤ c2) (g2 : k84.C w A2 x.f0.f2.length x.f0.f2) : k58.K w x [.int .i64 x.f0.f0,.int .i64 x.f0.f1,.slice A2 x.f0.f2.length c2,.int .i64 x.f1] := ⟨[.int .i64 x.f0.f0,.int .i64 x.f0.f1,.slice A2 x.f0.f2.length c2],[.int .i64 x.f1],rfl,(k27_mk w x.f0 l2 g2),rfl⟩
end Go.Proofs.YtjnifnhpnccpcaaGreat.J
namespace Go.Proofs.YtjnifnhpnccpcaaGreat.Open
open Go.ChangeShapes Go.WideShapes Go.ChangeAt Go.Deep Go.RowKit Go.Proofs.YtjnifnhpnccpcaaGreatW.PrintWords
open Go.Proofs.YtjnifnhpnccpcaaGreat.J
set_option linter.unusedVariables false
set_option linter.unusedSimpArgs false
theorem pick_list {α : Type} {Q : Nat → α → Prop} : ∀ n : Nat, (∀ i, i < n → ∃ a, Q i a) → ∃ xs : List α, xs.length = n ∧ ∀ i a, xs[i]? = some a → Q i a
  | 0, _ => ⟨[], rfl, fun i a h => by simp at h⟩
  | n + 1, h => by
    obtain ⟨xs, hl, hx⟩ := pick_list n (fun i hi => h i (by omega))
    obtain ⟨a, ha⟩ := h n (by omega)
    refine ⟨xs ++ [a], by simp [hl], fun i b hb => ?_⟩
    rcases Nat.lt_or_ge i n with hi | hi
    · rw [List.getElem?_append_left (by omega)] at hb
      exact hx i b hb
    · have hlt : i < (xs ++ [a]).length := (List.getElem?_eq_some_iff.1 hb).1
      obtain rfl : i = n := by simp at hlt; omega
      rw [List.getElem?_append_right (by omega)] at hb
      simp [hl] at hb
      subst hb
      exact ha
/-- What is read at type t as data reads as a value of kind d, of which V holds. -/
def Opens {α : Type} (P : Program) (t : TypeId) (d : Kd α) (V : α → Prop) : Prop :=
  ∀ {H : Type} (enc : TypeId × Value → H) (w : World) (base : Nat) (spare : Nat → Bool) (held : Bool) (fuel : Nat) (cs : List Value) (x : DataW H × List MemPlace),
    DataW.trod enc P w base spare held fuel t cs = some x → ∃ a, d.K w a cs ∧ V a
theorem opens_int {P : Program} {t : TypeId} {k_ : IntKind} (ht : P.underlying t = some (.int k_)) : Opens P t (Kd.int k_) (fun n_ : Int => (Lit.int k_ n_).wf = true) := by
  intro H enc w base spare held fuel cs x h
  obtain ⟨n, rfl, _, hw⟩ := DataW.trod_int ht h
  exact ⟨n, rfl, hw⟩
theorem opens_bool {P : Program} {t : TypeId} (ht : P.underlying t = some .bool) : Opens P t Kd.bool (fun _ => True) := by
  intro H enc w base spare held fuel cs x h
  obtain ⟨b, rfl, _⟩ := DataW.trod_bool ht h
  exact ⟨b, rfl, trivial⟩
theorem opens_slice {α : Type} {P : Program} {t e : TypeId} {d : Kd α} {V : α → Prop} (ht : P.underlying t = some (.slice e)) (hc : P.cellsOf e = d.sz) (he : Opens P e d V) :
    Opens P t (Kd.slice e d) (fun xs_ => xs_.length ≤ 9223372036854775807 ∧ ∀ x_ ∈ xs_, V x_) := by
  intro H enc w base spare held fuel cs x h
  rcases open_slice ht h with ⟨rfl, _⟩ | ⟨a, len, cap, m, n, D, Pl, rfl, hb, hl, hm, hmm, hx, hi⟩
  · exact ⟨[], ⟨none, 0, rfl, by simp, ⟨rfl, by simp, fun h => absurd h (Nat.lt_irrefl 0)⟩⟩, by simp, by simp⟩
  · have hlm : len ≤ m := by rw [hmm]; split <;> omega
    obtain ⟨xs, hxl, hxs⟩ := pick_list (Q := fun i y => (∃ cs', w.cells? base (a.add (i * P.cellsOf e)) (P.cellsOf e) = some cs' ∧ d.K w y cs') ∧ V y) len (fun i hlt => by
      obtain ⟨cs', h1, h2⟩ := hi i (by omega)
      obtain ⟨y, hk, hv⟩ := he enc w base spare held n cs' _ h2
      exact ⟨y, ⟨cs', h1, hk⟩, hv⟩)
    have hmax : xs.length ≤ 9223372036854775807 := by unfold maxLen at hm; omega
    refine ⟨xs, ⟨some a, cap, by rw [hxl], by omega, ⟨rfl, hmax, fun _ => ⟨a, rfl, fun j p hj => ?_⟩⟩⟩, hmax, fun y hy => ?_⟩
    · obtain ⟨⟨cs', h1, hk⟩, _⟩ := hxs j p hj
      obtain ⟨_, hcl, hat⟩ := World.cells?_some h1
      refine ⟨cs', d.K_len hk, hk, fun i u hu => ?_⟩
      have hlt : i < cs'.length := (List.getElem?_eq_some_iff.1 hu).1
      have := hat i (by omega)
      rw [Go.Deep.add_add, hu, hc] at this
      exact this
    · obtain ⟨j, hj⟩ := List.getElem?_of_mem hy
      exact (hxs j y hj).2
theorem len3 {cs : List Value} (h : cs.length = 3) : ∃ d0 d1 d2, cs = [d0, d1, d2] := by
  match cs, h with
  | [d0, d1, d2], _ => exact ⟨d0, d1, d2, rfl⟩
theorem len4 {cs : List Value} (h : cs.length = 4) : ∃ d0 d1 d2 d3, cs = [d0, d1, d2, d3] := by
  match cs, h with
  | [d0, d1, d2, d3], _ => exact ⟨d0, d1, d2, d3, rfl⟩
theorem len7 {cs : List Value} (h : cs.length = 7) : ∃ d0 d1 d2 d3 d4 d5 d6, cs = [d0, d1, d2, d3, d4, d5, d6] := by
  match cs, h with
  | [d0, d1, d2, d3, d4, d5, d6], _ => exact ⟨d0, d1, d2, d3, d4, d5, d6, rfl⟩
theorem len9 {cs : List Value} (h : cs.length = 9) : ∃ d0 d1 d2 d3 d4 d5 d6 d7 d8, cs = [d0, d1, d2, d3, d4, d5, d6, d7, d8] := by
  match cs, h with
  | [d0, d1, d2, d3, d4, d5, d6, d7, d8], _ => exact ⟨d0, d1, d2, d3, d4, d5, d6, d7, d8, rfl⟩
theorem cells80 : Tryz.prog.cellsOf 80 = 3 := by kernel_rfl
theorem open80 {H : Type} {enc : TypeId × Value → H} {w : World} {base : Nat} {spare : Nat → Bool} {held : Bool} {fuel : Nat} {cs : List Value} {x : DataW H × List MemPlace} (h : DataW.trod enc Tryz.prog w base spare held fuel 80 cs = some x) :
    ∃ (a_0 : Int) (a_1 : Int) (a_2 : Int), cs = [.int .i64 a_0, .int .i64 a_1, .int .i64 a_2] ∧ (Lit.int .i64 a_0).wf = true ∧ (Lit.int .i64 a_1).wf = true ∧ (Lit.int .i64 a_2).wf = true := by
  obtain ⟨xs, n, _, _, hl, hlen, hf⟩ := DataW.trod_struct Tryz.underlying80 h
  rw [cells80] at hl
  obtain ⟨d0, d1, d2, rfl⟩ := len3 hl
  · skip
    have g0 : ∃ y, DataW.trod enc Tryz.prog w base spare held n 3 [d0] = some y := by
      have g := hf 0 _ rfl
      rw [List.getElem?_eq_getElem (by rw [hlen]; decide)] at g
      exact ⟨_, by simpa [show Tryz.prog.cellsOf 3 = 1 from by kernel_rfl] using g⟩
    obtain ⟨y0, hy0⟩ := g0
    obtain ⟨a_0, e0, _, w_0⟩ := DataW.trod_int Tryz.underlying3 hy0
    simp only [List.cons.injEq, and_true] at e0
    obtain rfl := e0
    have g1 : ∃ y, DataW.trod enc Tryz.prog w base spare held n 3 [d1] = some y := by
      have g := hf 1 _ rfl
      rw [List.getElem?_eq_getElem (by rw [hlen]; decide)] at g
      exact ⟨_, by simpa [show Tryz.prog.cellsOf 3 = 1 from by kernel_rfl] using g⟩
    obtain ⟨y1, hy1⟩ := g1
    obtain ⟨a_1, e1, _, w_1⟩ := DataW.trod_int Tryz.underlying3 hy1
    simp only [List.cons.injEq, and_true] at e1
    obtain rfl := e1
    have g2 : ∃ y, DataW.trod enc Tryz.prog w base spare held n 3 [d2] = some y := by
      have g := hf 2 _ rfl
      rw [List.getElem?_eq_getElem (by rw [hlen]; decide)] at g
      exact ⟨_, by simpa [show Tryz.prog.cellsOf 3 = 1 from by kernel_rfl] using g⟩
    obtain ⟨y2, hy2⟩ := g2
    obtain ⟨a_2, e2, _, w_2⟩ := DataW.trod_int Tryz.underlying3 hy2
    simp only [List.cons.injEq, and_true] at e2
    obtain rfl := e2
    exact ⟨a_0, a_1, a_2, rfl, w_0, w_1, w_2⟩
theorem opens80 : Opens Tryz.prog 80 k80 (fun _ => True) := by
  intro H enc w base spare held fuel cs x h
  obtain ⟨a_0, a_1, a_2, rfl, _, _, _⟩ := open80 h
  exact ⟨⟨a_0, a_1, a_2⟩, k80_mk _ _, trivial⟩
theorem cells82 : Tryz.prog.cellsOf 82 = 7 := by kernel_rfl
theorem open82 {H : Type} {enc : TypeId × Value → H} {w : World} {base : Nat} {spare : Nat → Bool} {held : Bool} {fuel : Nat} {cs : List Value} {x : DataW H × List MemPlace} (h : DataW.trod enc Tryz.prog w base spare held fuel 82 cs = some x) :
    ∃ (a_0 : Int) (a_1 : Int) (a_2 : Int) (a_3 : Int) (a_4 : Int) (a_5 : Int) (a_6 : Int), cs = [.int .i64 a_0, .int .i64 a_1, .int .i64 a_2, .int .i64 a_3, .int .i64 a_4, .int .i64 a_5, .int .i64 a_6] ∧ (Lit.int .i64 a_0).wf = true ∧ (Lit.int .i64 a_1).wf = true ∧ (Lit.int .i64 a_2).wf = true ∧ (Lit.int .i64 a_3).wf = true ∧ (Lit.int .i64 a_4).wf = true ∧ (Lit.int .i64 a_5).wf = true ∧ (Lit.int .i64 a_6).wf = true := by
  obtain ⟨xs, n, _, _, hl, hlen, hf⟩ := DataW.trod_struct Tryz.underlying82 h
  rw [cells82] at hl
  obtain ⟨d0, d1, d2, d3, d4, d5, d6, rfl⟩ := len7 hl
  · skip
    have g0 : ∃ y, DataW.trod enc Tryz.prog w base spare held n 3 [d0] = some y := by
      have g := hf 0 _ rfl
      rw [List.getElem?_eq_getElem (by rw [hlen]; decide)] at g
      exact ⟨_, by simpa [show Tryz.prog.cellsOf 3 = 1 from by kernel_rfl] using g⟩
    obtain ⟨y0, hy0⟩ := g0
    obtain ⟨a_0, e0, _, w_0⟩ := DataW.trod_int Tryz.underlying3 hy0
    simp only [List.cons.injEq, and_true] at e0
    obtain rfl := e0
    have g1 : ∃ y, DataW.trod enc Tryz.prog w base spare held n 3 [d1] = some y := by
      have g := hf 1 _ rfl
      rw [List.getElem?_eq_getElem (by rw [hlen]; decide)] at g
      exact ⟨_, by simpa [show Tryz.prog.cellsOf 3 = 1 from by kernel_rfl] using g⟩
    obtain ⟨y1, hy1⟩ := g1
    obtain ⟨a_1, e1, _, w_1⟩ := DataW.trod_int Tryz.underlying3 hy1
    simp only [List.cons.injEq, and_true] at e1
    obtain rfl := e1
    have g2 : ∃ y, DataW.trod enc Tryz.prog w base spare held n 3 [d2] = some y := by
      have g := hf 2 _ rfl
      rw [List.getElem?_eq_getElem (by rw [hlen]; decide)] at g
      exact ⟨_, by simpa [show Tryz.prog.cellsOf 3 = 1 from by kernel_rfl] using g⟩
    obtain ⟨y2, hy2⟩ := g2
    obtain ⟨a_2, e2, _, w_2⟩ := DataW.trod_int Tryz.underlying3 hy2
    simp only [List.cons.injEq, and_true] at e2
    obtain rfl := e2
    have g3 : ∃ y, DataW.trod enc Tryz.prog w base spare held n 80 [d3, d4, d5] = some y := by
      have g := hf 3 _ rfl
      rw [List.getElem?_eq_getElem (by rw [hlen]; decide)] at g
      exact ⟨_, by simpa [show Tryz.prog.cellsOf 80 = 3 from by kernel_rfl] using g⟩
    obtain ⟨y3, hy3⟩ := g3
    obtain ⟨a_3, a_4, a_5, e3, w_3, w_4, w_5⟩ := open80 hy3
    simp only [List.cons.injEq, and_true] at e3
    obtain ⟨rfl, rfl, rfl⟩ := e3
    have g4 : ∃ y, DataW.trod enc Tryz.prog w base spare held n 3 [d6] = some y := by
      have g := hf 4 _ rfl
      rw [List.getElem?_eq_getElem (by rw [hlen]; decide)] at g
      exact ⟨_, by simpa [show Tryz.prog.cellsOf 3 = 1 from by kernel_rfl] using g⟩
    obtain ⟨y4, hy4⟩ := g4
    obtain ⟨a_6, e4, _, w_6⟩ := DataW.trod_int Tryz.underlying3 hy4
    simp only [List.cons.injEq, and_true] at e4
    obtain rfl := e4
    exact ⟨a_0, a_1, a_2, a_3, a_4, a_5, a_6, rfl, w_0, w_1, w_2, w_3, w_4, w_5, w_6⟩
theorem opens82 : Opens Tryz.prog 82 k82 (fun _ => True) := by
  intro H enc w base spare held fuel cs x h
  obtain ⟨a_0, a_1, a_2, a_3, a_4, a_5, a_6, rfl, _, _, _, _, _, _, _⟩ := open82 h
  exact ⟨⟨a_0, a_1, a_2, ⟨a_3, a_4, a_5⟩, a_6⟩, k82_mk _ _, trivial⟩
theorem cells84 : Tryz.prog.cellsOf 84 = 9 := by kernel_rfl
theorem open84 {H : Type} {enc : TypeId × Value → H} {w : World} {base : Nat} {spare : Nat → Bool} {held : Bool} {fuel : Nat} {cs : List Value} {x : DataW H × List MemPlace} (h : DataW.trod enc Tryz.prog w base spare held fuel 84 cs = some x) :
    ∃ (a_0 : Int) (a_1 : Int) (a_2 : Int) (a_3 : Int) (a_4 : Int) (a_5 : Int) (a_6 : Int) (a_7 : Int) (a_8 : Bool), cs = [.int .i64 a_0, .int .i64 a_1, .int .i64 a_2, .int .i64 a_3, .int .i64 a_4, .int .i64 a_5, .int .i64 a_6, .int .i64 a_7, .bool a_8] ∧ (Lit.int .i64 a_0).wf = true ∧ (Lit.int .i64 a_1).wf = true ∧ (Lit.int .i64 a_2).wf = true ∧ (Lit.int .i64 a_3).wf = true ∧ (Lit.int .i64 a_4).wf = true ∧ (Lit.int .i64 a_5).wf = true ∧ (Lit.int .i64 a_6).wf = true ∧ (Lit.int .i64 a_7).wf = true := by
  obtain ⟨xs, n, _, _, hl, hlen, hf⟩ := DataW.trod_struct Tryz.underlying84 h
  rw [cells84] at hl
  obtain ⟨d0, d1, d2, d3, d4, d5, d6, d7, d8, rfl⟩ := len9 hl
  · skip
    have g0 : ∃ y, DataW.trod enc Tryz.prog w base spare held n 82 [d0, d1, d2, d3, d4, d5, d6] = some y := by
      have g := hf 0 _ rfl
      rw [List.getElem?_eq_getElem (by rw [hlen]; decide)] at g
      exact ⟨_, by simpa [show Tryz.prog.cellsOf 82 = 7 from by kernel_rfl] using g⟩
    obtain ⟨y0, hy0⟩ := g0
    obtain ⟨a_0, a_1, a_2, a_3, a_4, a_5, a_6, e0, w_0, w_1, w_2, w_3, w_4, w_5, w_6⟩ := open82 hy0
    simp only [List.cons.injEq, and_true] at e0
    obtain ⟨rfl, rfl, rfl, rfl, rfl, rfl, rfl⟩ := e0
    have g1 : ∃ y, DataW.trod enc Tryz.prog w base spare held n 3 [d7] = some y := by
      have g := hf 1 _ rfl
      rw [List.getElem?_eq_getElem (by rw [hlen]; decide)] at g
      exact ⟨_, by simpa [show Tryz.prog.cellsOf 3 = 1 from by kernel_rfl] using g⟩
    obtain ⟨y1, hy1⟩ := g1
    obtain ⟨a_7, e1, _, w_7⟩ := DataW.trod_int Tryz.underlying3 hy1
    simp only [List.cons.injEq, and_true] at e1
    obtain rfl := e1
    have g2 : ∃ y, DataW.trod enc Tryz.prog w base spare held n 4 [d8] = some y := by
      have g := hf 2 _ rfl
      rw [List.getElem?_eq_getElem (by rw [hlen]; decide)] at g
      exact ⟨_, by simpa [show Tryz.prog.cellsOf 4 = 1 from by kernel_rfl] using g⟩
    obtain ⟨y2, hy2⟩ := g2
    obtain ⟨a_8, e2, _⟩ := DataW.trod_bool Tryz.underlying4 hy2
    simp only [List.cons.injEq, and_true] at e2
    obtain rfl := e2
    exact ⟨a_0, a_1, a_2, a_3, a_4, a_5, a_6, a_7, a_8, rfl, w_0, w_1, w_2, w_3, w_4, w_5, w_6, w_7⟩
theorem opens84 : Opens Tryz.prog 84 k84 (fun _ => True) := by
  intro H enc w base spare held fuel cs x h
  obtain ⟨a_0, a_1, a_2, a_3, a_4, a_5, a_6, a_7, a_8, rfl, _, _, _, _, _, _, _, _⟩ := open84 h
  exact ⟨⟨⟨a_0, a_1, a_2, ⟨a_3, a_4, a_5⟩, a_6⟩, a_7, a_8⟩, k84_mk _ _, trivial⟩
theorem cells27 : Tryz.prog.cellsOf 27 = 3 := by kernel_rfl
theorem open27 {H : Type} {enc : TypeId × Value → H} {w : World} {base : Nat} {spare : Nat → Bool} {held : Bool} {fuel : Nat} {cs : List Value} {x : DataW H × List MemPlace} (h : DataW.trod enc Tryz.prog w base spare held fuel 27 cs = some x) :
    ∃ (a_0 : Int) (a_1 : Int) (A_2 : Option Addr) (c_2 : Nat) (l_2 : (List S84)), cs = [.int .i64 a_0, .int .i64 a_1, .slice A_2 l_2.length c_2] ∧ (Lit.int .i64 a_0).wf = true ∧ (Lit.int .i64 a_1).wf = true ∧ (Kd.C k84 w A_2 l_2.length l_2 ∧ l_2.length ≤ c_2 ∧ (fun xs_ => xs_.length ≤ 9223372036854775807 ∧ ∀ x_ ∈ xs_, (fun _ => True) x_) l_2) := by
  obtain ⟨xs, n, _, _, hl, hlen, hf⟩ := DataW.trod_struct Tryz.underlying27 h
  rw [cells27] at hl
  obtain ⟨d0, d1, d2, rfl⟩ := len3 hl
  · skip
    have g0 : ∃ y, DataW.trod enc Tryz.prog w base spare held n 3 [d0] = some y := by
      have g := hf 0 _ rfl
      rw [List.getElem?_eq_getElem (by rw [hlen]; decide)] at g
      exact ⟨_, by simpa [show Tryz.prog.cellsOf 3 = 1 from by kernel_rfl] using g⟩
    obtain ⟨y0, hy0⟩ := g0
    obtain ⟨a_0, e0, _, w_0⟩ := DataW.trod_int Tryz.underlying3 hy0
    simp only [List.cons.injEq, and_true] at e0
    obtain rfl := e0
    have g1 : ∃ y, DataW.trod enc Tryz.prog w base spare held n 3 [d1] = some y := by
      have g := hf 1 _ rfl
      rw [List.getElem?_eq_getElem (by rw [hlen]; decide)] at g
      exact ⟨_, by simpa [show Tryz.prog.cellsOf 3 = 1 from by kernel_rfl] using g⟩
    obtain ⟨y1, hy1⟩ := g1
    obtain ⟨a_1, e1, _, w_1⟩ := DataW.trod_int Tryz.underlying3 hy1
    simp only [List.cons.injEq, and_true] at e1
    obtain rfl := e1
    have g2 : ∃ y, DataW.trod enc Tryz.prog w base spare held n 25 [d2] = some y := by
      have g := hf 2 _ rfl
      rw [List.getElem?_eq_getElem (by rw [hlen]; decide)] at g
      exact ⟨_, by simpa [show Tryz.prog.cellsOf 25 = 1 from by kernel_rfl] using g⟩
    obtain ⟨y2, hy2⟩ := g2
    obtain ⟨l_2, ⟨A_2, c_2, e2, hc_2, hC_2⟩, hV_2⟩ := (opens_slice Tryz.underlying25 (by kernel_rfl) opens84) enc w base spare held n _ _ hy2
    simp only [List.cons.injEq, and_true] at e2
    obtain rfl := e2
    exact ⟨a_0, a_1, A_2, c_2, l_2, rfl, w_0, w_1, ⟨hC_2, hc_2, hV_2⟩⟩
theorem opens27 : Opens Tryz.prog 27 k27 (fun s_ : S27 => s_.f2.length ≤ 9223372036854775807) := by
  intro H enc w base spare held fuel cs x h
  obtain ⟨a_0, a_1, A_2, c_2, l_2, rfl, _, _, w_2⟩ := open27 h
  exact ⟨⟨a_0, a_1, l_2⟩, k27_mk _ _ w_2.2.1 w_2.1, w_2.2.2.1⟩
theorem cells58 : Tryz.prog.cellsOf 58 = 4 := by kernel_rfl
theorem open58 {H : Type} {enc : TypeId × Value → H} {w : World} {base : Nat} {spare : Nat → Bool} {held : Bool} {fuel : Nat} {cs : List Value} {x : DataW H × List MemPlace} (h : DataW.trod enc Tryz.prog w base spare held fuel 58 cs = some x) :
    ∃ (a_0 : Int) (a_1 : Int) (A_2 : Option Addr) (c_2 : Nat) (l_2 : (List S84)) (a_3 : Int), cs = [.int .i64 a_0, .int .i64 a_1, .slice A_2 l_2.length c_2, .int .i64 a_3] ∧ (Lit.int .i64 a_0).wf = true ∧ (Lit.int .i64 a_1).wf = true ∧ (Kd.C k84 w A_2 l_2.length l_2 ∧ l_2.length ≤ c_2 ∧ (fun xs_ => xs_.length ≤ 9223372036854775807 ∧ ∀ x_ ∈ xs_, (fun _ => True) x_) l_2) ∧ (Lit.int .i64 a_3).wf = true := by
  obtain ⟨xs, n, _, _, hl, hlen, hf⟩ := DataW.trod_struct Tryz.underlying58 h
  rw [cells58] at hl
  obtain ⟨d0, d1, d2, d3, rfl⟩ := len4 hl
  · skip
    have g0 : ∃ y, DataW.trod enc Tryz.prog w base spare held n 27 [d0, d1, d2] = some y := by
      have g := hf 0 _ rfl
      rw [List.getElem?_eq_getElem (by rw [hlen]; decide)] at g
      exact ⟨_, by simpa [show Tryz.prog.cellsOf 27 = 3 from by kernel_rfl] using g⟩
    obtain ⟨y0, hy0⟩ := g0
    obtain ⟨a_0, a_1, A_2, c_2, l_2, e0, w_0, w_1, w_2⟩ := open27 hy0
    simp only [List.cons.injEq, and_true] at e0
    obtain ⟨rfl, rfl, rfl⟩ := e0
    have g1 : ∃ y, DataW.trod enc Tryz.prog w base spare held n 3 [d3] = some y := by
      have g := hf 1 _ rfl
      rw [List.getElem?_eq_getElem (by rw [hlen]; decide)] at g
      exact ⟨_, by simpa [show Tryz.prog.cellsOf 3 = 1 from by kernel_rfl] using g⟩
    obtain ⟨y1, hy1⟩ := g1
    obtain ⟨a_3, e1, _, w_3⟩ := DataW.trod_int Tryz.underlying3 hy1
    simp only [List.cons.injEq, and_true] at e1
    obtain rfl := e1
    exact ⟨a_0, a_1, A_2, c_2, l_2, a_3, rfl, w_0, w_1, w_2, w_3⟩
theorem opens58 : Opens Tryz.prog 58 k58 (fun s_ : S58 => s_.f0.f2.length ≤ 9223372036854775807) := by
  intro H enc w base spare held fuel cs x h
  obtain ⟨a_0, a_1, A_2, c_2, l_2, a_3, rfl, _, _, w_2, _⟩ := open58 h
  exact ⟨⟨⟨a_0, a_1, l_2⟩, a_3⟩, k58_mk _ _ w_2.2.1 w_2.1, w_2.2.2.1⟩
theorem cells24 : Tryz.prog.cellsOf 24 = 3 := by kernel_rfl
theorem open24 {H : Type} {enc : TypeId × Value → H} {w : World} {base : Nat} {spare : Nat → Bool} {held : Bool} {fuel : Nat} {cs : List Value} {x : DataW H × List MemPlace} (h : DataW.trod enc Tryz.prog w base spare held fuel 24 cs = some x) :
    ∃ (a_0 : Int) (a_1 : Int) (A_2 : Option Addr) (c_2 : Nat) (l_2 : (List S58)), cs = [.int .i64 a_0, .int .i64 a_1, .slice A_2 l_2.length c_2] ∧ (Lit.int .i64 a_0).wf = true ∧ (Lit.int .i64 a_1).wf = true ∧ (Kd.C k58 w A_2 l_2.length l_2 ∧ l_2.length ≤ c_2 ∧ (fun xs_ => xs_.length ≤ 9223372036854775807 ∧ ∀ x_ ∈ xs_, (fun s_ : S58 => s_.f0.f2.length ≤ 9223372036854775807) x_) l_2) := by
  obtain ⟨xs, n, _, _, hl, hlen, hf⟩ := DataW.trod_struct Tryz.underlying24 h
  rw [cells24] at hl
  obtain ⟨d0, d1, d2, rfl⟩ := len3 hl
  · skip
    have g0 : ∃ y, DataW.trod enc Tryz.prog w base spare held n 3 [d0] = some y := by
      have g := hf 0 _ rfl
      rw [List.getElem?_eq_getElem (by rw [hlen]; decide)] at g
      exact ⟨_, by simpa [show Tryz.prog.cellsOf 3 = 1 from by kernel_rfl] using g⟩
    obtain ⟨y0, hy0⟩ := g0
    obtain ⟨a_0, e0, _, w_0⟩ := DataW.trod_int Tryz.underlying3 hy0
    simp only [List.cons.injEq, and_true] at e0
    obtain rfl := e0
    have g1 : ∃ y, DataW.trod enc Tryz.prog w base spare held n 3 [d1] = some y := by
      have g := hf 1 _ rfl
      rw [List.getElem?_eq_getElem (by rw [hlen]; decide)] at g
      exact ⟨_, by simpa [show Tryz.prog.cellsOf 3 = 1 from by kernel_rfl] using g⟩
    obtain ⟨y1, hy1⟩ := g1
    obtain ⟨a_1, e1, _, w_1⟩ := DataW.trod_int Tryz.underlying3 hy1
    simp only [List.cons.injEq, and_true] at e1
    obtain rfl := e1
    have g2 : ∃ y, DataW.trod enc Tryz.prog w base spare held n 22 [d2] = some y := by
      have g := hf 2 _ rfl
      rw [List.getElem?_eq_getElem (by rw [hlen]; decide)] at g
      exact ⟨_, by simpa [show Tryz.prog.cellsOf 22 = 1 from by kernel_rfl] using g⟩
    obtain ⟨y2, hy2⟩ := g2
    obtain ⟨l_2, ⟨A_2, c_2, e2, hc_2, hC_2⟩, hV_2⟩ := (opens_slice Tryz.underlying22 (by kernel_rfl) opens58) enc w base spare held n _ _ hy2
    simp only [List.cons.injEq, and_true] at e2
    obtain rfl := e2
    exact ⟨a_0, a_1, A_2, c_2, l_2, rfl, w_0, w_1, ⟨hC_2, hc_2, hV_2⟩⟩
end Go.Proofs.YtjnifnhpnccpcaaGreat.Open
