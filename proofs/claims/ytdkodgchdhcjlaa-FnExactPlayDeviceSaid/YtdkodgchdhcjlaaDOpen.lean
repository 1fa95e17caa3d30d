/- What a law is handed, opened: a struct's cells, and what its slices hold. No condition: it is said of whatever can be read as data. -/
import Derived.ProofKit
import Derived.Deep.Slices
import Derived.Test.YtdkodgchdhcjlaaDWMore
import Derived.Test.YtdkodgchdhcjlaaDx0
namespace Go.Proofs.Ytdkodgchdhcjlaa.Open
open Go.ChangeShapes Go.WideShapes Go.ChangeAt Go.Deep Go.RowKit Go.Proofs.YtdkodgchdhcjlaaW.PrintWords
open Go.Proofs.Ytdkodgchdhcjlaa.D
set_option linter.unusedVariables false
set_option linter.unusedSimpArgs false
theorem pick_list {α : Type} {Q : Nat → α → Prop} : ∀ n : Nat, (∀ i, i < n → ∃ a, Q i a) → ∃ xs : List α, xs.length = n ∧ ∀ i a, xs[i]? = some a → Q i a
  | 0, _ => ⟨[], rfl, fun i a h => by simp at h⟩
  | n + 1, h => by
    obtain ⟨xs, hl, hx⟩ := pick_list n (fun i hi => h i (by omega))
    obtain ⟨a, ha⟩ := h n (by omega)
    refine ⟨xs ++ [a], by simp [hl], fun i b hb => ?_⟩
    rcases Nat.lt_or_ge i n with hi | hi
    · rw [List.getElem?_append_left (by omega)] at hb
      exact hx i b hb
    · have hlt : i < (xs ++ [a]).length := (List.getElem?_eq_some_iff.1 hb).1
      obtain rfl : i = n := by simp at hlt; omega
      rw [List.getElem?_append_right (by omega)] at hb
      simp [hl] at hb
      subst hb
      exact ha
/-- What is read at type t as data reads as a value of kind d, of which V holds. -/
def Opens {α : Type} (P : Program) (t : TypeId) (d : Kd α) (V : α → Prop) : Prop :=
  ∀ {H : Type} (enc : TypeId × Value → H) (w : World) (base : Nat) (spare : Nat → Bool) (held : Bool) (fuel : Nat) (cs : List Value) (x : DataW H × List MemPlace),
    DataW.trod enc P w base spare held fuel t cs = some x → ∃ a, d.K w a cs ∧ V a
theorem opens_int {P : Program} {t : TypeId} {k_ : IntKind} (ht : P.underlying t = some (.int k_)) : Opens P t (Kd.int k_) (fun n_ : Int => (Lit.int k_ n_).wf = true) := by
  intro H enc w base spare held fuel cs x h
  obtain ⟨n, rfl, _, hw⟩ := DataW.trod_int ht h
  exact ⟨n, rfl, hw⟩
theorem opens_bool {P : Program} {t : TypeId} (ht : P.underlying t = some .bool) : Opens P t Kd.bool (fun _ => True) := by
  intro H enc w base spare held fuel cs x h
  obtain ⟨b, rfl, _⟩ := DataW.trod_bool ht h
  exact ⟨b, rfl, trivial⟩
theorem opens_slice {α : Type} {P : Program} {t e : TypeId} {d : Kd α} {V : α → Prop} (ht : P.underlying t = some (.slice e)) (hc : P.cellsOf e = d.sz) (he : Opens P e d V) :
    Opens P t (Kd.slice e d) (fun xs_ => xs_.length ≤ 9223372036854775807 ∧ ∀ x_ ∈ xs_, V x_) := by
  intro H enc w base spare held fuel cs x h
  rcases open_slice ht h with ⟨rfl, _⟩ | ⟨a, len, cap, m, n, D, Pl, rfl, hb, hl, hm, hmm, hx, hi⟩
  · exact ⟨[], ⟨none, 0, rfl, by simp, ⟨rfl, by simp, fun h => absurd h (Nat.lt_irrefl 0)⟩⟩, by simp, by simp⟩
  · have hlm : len ≤ m := by rw [hmm]; split <;> omega
    obtain ⟨xs, hxl, hxs⟩ := pick_list (Q := fun i y => (∃ cs', w.cells? base (a.add (i * P.cellsOf e)) (P.cellsOf e) = some cs' ∧ d.K w y cs') ∧ V y) len (fun i hlt => by
      obtain ⟨cs', h1, h2⟩ := hi i (by omega)
      obtain ⟨y, hk, hv⟩ := he enc w base spare held n cs' _ h2
      exact ⟨y, ⟨cs', h1, hk⟩, hv⟩)
    have hmax : xs.length ≤ 9223372036854775807 := by unfold maxLen at hm; omega
    refine ⟨xs, ⟨some a, cap, by rw [hxl], by omega, ⟨rfl, hmax, fun _ => ⟨a, rfl, fun j p hj => ?_⟩⟩⟩, hmax, fun y hy => ?_⟩
    · obtain ⟨⟨cs', h1, hk⟩, _⟩ := hxs j p hj
      obtain ⟨_, hcl, hat⟩ := World.cells?_some h1
      refine ⟨cs', d.K_len hk, hk, fun i u hu => ?_⟩
      have hlt : i < cs'.length := (List.getElem?_eq_some_iff.1 hu).1
      have := hat i (by omega)
      rw [Go.Deep.add_add, hu, hc] at this
      exact this
    · obtain ⟨j, hj⟩ := List.getElem?_of_mem hy
      exact (hxs j y hj).2
theorem len3 {cs : List Value} (h : cs.length = 3) : ∃ d0 d1 d2, cs = [d0, d1, d2] := by
  match cs, h with
  | [d0, d1, d2], _ => exact ⟨d0, d1, d2, rfl⟩
theorem len6 {cs : List Value} (h : cs.length = 6) : ∃ d0 d1 d2 d3 d4 d5, cs = [d0, d1, d2, d3, d4, d5] := by
  match cs, h with
  | [d0, d1, d2, d3, d4, d5], _ => exact ⟨d0, d1, d2, d3, d4, d5, rfl⟩
theorem cells24 : Try.prog.cellsOf 24 = 6 := by kernel_rfl
theorem open24 {H : Type} {enc : TypeId × Value → H} {w : World} {base : Nat} {spare : Nat → Bool} {held : Bool} {fuel : Nat} {cs : List Value} {x : DataW H × List MemPlace} (h : DataW.trod enc Try.prog w base spare held fuel 24 cs = some x) :
    ∃ (a_0 : Int) (a_1 : Int) (a_2 : Bool) (A_3 : Option Addr) (c_3 : Nat) (l_3 : (List Int)) (A_4 : Option Addr) (c_4 : Nat) (l_4 : (List Int)) (a_5 : Int), cs = [.int .i64 a_0, .int .i64 a_1, .bool a_2, .slice A_3 l_3.length c_3, .slice A_4 l_4.length c_4, .int .i64 a_5] ∧ (Lit.int .i64 a_0).wf = true ∧ (Lit.int .i64 a_1).wf = true ∧ (Kd.C (Kd.int .i64) w A_3 l_3.length l_3 ∧ l_3.length ≤ c_3 ∧ (fun xs_ => xs_.length ≤ 9223372036854775807 ∧ ∀ x_ ∈ xs_, (fun n_ : Int => (Lit.int .i64 n_).wf = true) x_) l_3) ∧ (Kd.C (Kd.int .i64) w A_4 l_4.length l_4 ∧ l_4.length ≤ c_4 ∧ (fun xs_ => xs_.length ≤ 9223372036854775807 ∧ ∀ x_ ∈ xs_, (fun n_ : Int => (Lit.int .i64 n_).wf = true) x_) l_4) ∧ (Lit.int .i64 a_5).wf = true := by
  obtain ⟨xs, n, _, _, hl, hlen, hf⟩ := DataW.trod_struct Try.underlying24 h
  rw [cells24] at hl
  obtain ⟨d0, d1, d2, d3, d4, d5, rfl⟩ := len6 hl
  · skip
    have g0 : ∃ y, DataW.trod enc Try.prog w base spare held n 3 [d0] = some y := by
      have g := hf 0 _ rfl
      rw [List.getElem?_eq_getElem (by rw [hlen]; decide)] at g
      exact ⟨_, by simpa [show Try.prog.cellsOf 3 = 1 from by kernel_rfl] using g⟩
    obtain ⟨y0, hy0⟩ := g0
    obtain ⟨a_0, e0, _, w_0⟩ := DataW.trod_int Try.underlying3 hy0
    simp only [List.cons.injEq, and_true] at e0
    obtain rfl := e0
    have g1 : ∃ y, DataW.trod enc Try.prog w base spare held n 3 [d1] = some y := by
      have g := hf 1 _ rfl
      rw [List.getElem?_eq_getElem (by rw [hlen]; decide)] at g
      exact ⟨_, by simpa [show Try.prog.cellsOf 3 = 1 from by kernel_rfl] using g⟩
    obtain ⟨y1, hy1⟩ := g1
    obtain ⟨a_1, e1, _, w_1⟩ := DataW.trod_int Try.underlying3 hy1
    simp only [List.cons.injEq, and_true] at e1
    obtain rfl := e1
    have g2 : ∃ y, DataW.trod enc Try.prog w base spare held n 4 [d2] = some y := by
      have g := hf 2 _ rfl
      rw [List.getElem?_eq_getElem (by rw [hlen]; decide)] at g
      exact ⟨_, by simpa [show Try.prog.cellsOf 4 = 1 from by kernel_rfl] using g⟩
    obtain ⟨y2, hy2⟩ := g2
    obtain ⟨a_2, e2, _⟩ := DataW.trod_bool Try.underlying4 hy2
    simp only [List.cons.injEq, and_true] at e2
    obtain rfl := e2
    have g3 : ∃ y, DataW.trod enc Try.prog w base spare held n 22 [d3] = some y := by
      have g := hf 3 _ rfl
      rw [List.getElem?_eq_getElem (by rw [hlen]; decide)] at g
      exact ⟨_, by simpa [show Try.prog.cellsOf 22 = 1 from by kernel_rfl] using g⟩
    obtain ⟨y3, hy3⟩ := g3
    obtain ⟨l_3, ⟨A_3, c_3, e3, hc_3, hC_3⟩, hV_3⟩ := (opens_slice Try.underlying22 (by kernel_rfl) (opens_int Try.underlying3)) enc w base spare held n _ _ hy3
    simp only [List.cons.injEq, and_true] at e3
    obtain rfl := e3
    have g4 : ∃ y, DataW.trod enc Try.prog w base spare held n 22 [d4] = some y := by
      have g := hf 4 _ rfl
      rw [List.getElem?_eq_getElem (by rw [hlen]; decide)] at g
      exact ⟨_, by simpa [show Try.prog.cellsOf 22 = 1 from by kernel_rfl] using g⟩
    obtain ⟨y4, hy4⟩ := g4
    obtain ⟨l_4, ⟨A_4, c_4, e4, hc_4, hC_4⟩, hV_4⟩ := (opens_slice Try.underlying22 (by kernel_rfl) (opens_int Try.underlying3)) enc w base spare held n _ _ hy4
    simp only [List.cons.injEq, and_true] at e4
    obtain rfl := e4
    have g5 : ∃ y, DataW.trod enc Try.prog w base spare held n 3 [d5] = some y := by
      have g := hf 5 _ rfl
      rw [List.getElem?_eq_getElem (by rw [hlen]; decide)] at g
      exact ⟨_, by simpa [show Try.prog.cellsOf 3 = 1 from by kernel_rfl] using g⟩
    obtain ⟨y5, hy5⟩ := g5
    obtain ⟨a_5, e5, _, w_5⟩ := DataW.trod_int Try.underlying3 hy5
    simp only [List.cons.injEq, and_true] at e5
    obtain rfl := e5
    exact ⟨a_0, a_1, a_2, A_3, c_3, l_3, A_4, c_4, l_4, a_5, rfl, w_0, w_1, ⟨hC_3, hc_3, hV_3⟩, ⟨hC_4, hc_4, hV_4⟩, w_5⟩
theorem cells37 : Try.prog.cellsOf 37 = 3 := by kernel_rfl
theorem open37 {H : Type} {enc : TypeId × Value → H} {w : World} {base : Nat} {spare : Nat → Bool} {held : Bool} {fuel : Nat} {cs : List Value} {x : DataW H × List MemPlace} (h : DataW.trod enc Try.prog w base spare held fuel 37 cs = some x) :
    ∃ (a_0 : Int) (a_1 : Int) (a_2 : Int), cs = [.int .i64 a_0, .int .i64 a_1, .int .i64 a_2] ∧ (Lit.int .i64 a_0).wf = true ∧ (Lit.int .i64 a_1).wf = true ∧ (Lit.int .i64 a_2).wf = true := by
  obtain ⟨xs, n, _, _, hl, hlen, hf⟩ := DataW.trod_struct Try.underlying37 h
  rw [cells37] at hl
  obtain ⟨d0, d1, d2, rfl⟩ := len3 hl
  · skip
    have g0 : ∃ y, DataW.trod enc Try.prog w base spare held n 3 [d0] = some y := by
      have g := hf 0 _ rfl
      rw [List.getElem?_eq_getElem (by rw [hlen]; decide)] at g
      exact ⟨_, by simpa [show Try.prog.cellsOf 3 = 1 from by kernel_rfl] using g⟩
    obtain ⟨y0, hy0⟩ := g0
    obtain ⟨a_0, e0, _, w_0⟩ := DataW.trod_int Try.underlying3 hy0
    simp only [List.cons.injEq, and_true] at e0
    obtain rfl := e0
    have g1 : ∃ y, DataW.trod enc Try.prog w base spare held n 3 [d1] = some y := by
      have g := hf 1 _ rfl
      rw [List.getElem?_eq_getElem (by rw [hlen]; decide)] at g
      exact ⟨_, by simpa [show Try.prog.cellsOf 3 = 1 from by kernel_rfl] using g⟩
    obtain ⟨y1, hy1⟩ := g1
    obtain ⟨a_1, e1, _, w_1⟩ := DataW.trod_int Try.underlying3 hy1
    simp only [List.cons.injEq, and_true] at e1
    obtain rfl := e1
    have g2 : ∃ y, DataW.trod enc Try.prog w base spare held n 3 [d2] = some y := by
      have g := hf 2 _ rfl
      rw [List.getElem?_eq_getElem (by rw [hlen]; decide)] at g
      exact ⟨_, by simpa [show Try.prog.cellsOf 3 = 1 from by kernel_rfl] using g⟩
    obtain ⟨y2, hy2⟩ := g2
    obtain ⟨a_2, e2, _, w_2⟩ := DataW.trod_int Try.underlying3 hy2
    simp only [List.cons.injEq, and_true] at e2
    obtain rfl := e2
    exact ⟨a_0, a_1, a_2, rfl, w_0, w_1, w_2⟩
theorem opens37 : Opens Try.prog 37 k37 (fun _ => True) := by
  intro H enc w base spare held fuel cs x h
  obtain ⟨a_0, a_1, a_2, rfl, _, _, _⟩ := open37 h
  exact ⟨⟨a_0, a_1, a_2⟩, k37_mk _ _, trivial⟩
end Go.Proofs.Ytdkodgchdhcjlaa.Open
