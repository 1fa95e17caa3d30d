/- What a law is handed, opened: a struct's cells, and what its slices hold. No condition: it is said of whatever can be read as data. -/
import Derived.ProofKit
import Derived.Deep.Slices
import Derived.Test.YtodmelfgkhebjaaUWMore
import Derived.Test.YtodmelfgkhebjaaUx0
namespace Go.Proofs.Ytodmelfgkhebjaa.Open
open Go.ChangeShapes Go.WideShapes Go.ChangeAt Go.Deep Go.RowKit Go.Proofs.YtodmelfgkhebjaaW.PrintWords
open Go.Proofs.Ytodmelfgkhebjaa.U
set_option linter.unusedVariables false
set_option linter.unusedSimpArgs false
theorem pick_list {α : Type} {Q : Nat → α → Prop} : ∀ n : Nat, (∀ i, i < n → ∃ a, Q i a) → ∃ xs : List α, xs.length = n ∧ ∀ i a, xs[i]? = some a → Q i a
  | 0, _ => ⟨[], rfl, fun i a h => by simp at h⟩
  | n + 1, h => by
    obtain ⟨xs, hl, hx⟩ := pick_list n (fun i hi => h i (by omega))
    obtain ⟨a, ha⟩ := h n (by omega)
    refine ⟨xs ++ [a], by simp [hl], fun i b hb => ?_⟩
    rcases Nat.lt_or_ge i n with hi | hi
    · rw [List.getElem?_append_left (by omega)] at hb
      exact hx i b hb
    · have hlt : i < (xs ++ [a]).length := (List.getElem?_eq_some_iff.1 hb).1
      obtain rfl : i = n := by simp at hlt; omega
      rw [List.getElem?_append_right (by omega)] at hb
      simp [hl] at hb
      subst hb
      exact ha
/-- What is read at type t as data reads as a value of kind d, of which V holds. -/
def Opens {α : Type} (P : Program) (t : TypeId) (d : Kd α) (V : α → Prop) : Prop :=
  ∀ {H : Type} (enc : TypeId × Value → H) (w : World) (base : Nat) (spare : Nat → Bool) (held : Bool) (fuel : Nat) (cs : List Value) (x : DataW H × List MemPlace),
    DataW.trod enc P w base spare held fuel t cs = some x → ∃ a, d.K w a cs ∧ V a
theorem opens_int {P : Program} {t : TypeId} {k_ : IntKind} (ht : P.underlying t = some (.int k_)) : Opens P t (Kd.int k_) (fun n_ : Int => (Lit.int k_ n_).wf = true) := by
  intro H enc w base spare held fuel cs x h
  obtain ⟨n, rfl, _, hw⟩ := DataW.trod_int ht h
  exact ⟨n, rfl, hw⟩
theorem opens_bool {P : Program} {t : TypeId} (ht : P.underlying t = some .bool) : Opens P t Kd.bool (fun _ => True) := by
  intro H enc w base spare held fuel cs x h
  obtain ⟨b, rfl, _⟩ := DataW.trod_bool ht h
  exact ⟨b, rfl, trivial⟩
theorem opens_slice {α : Type} {P : Program} {t e : TypeId} {d : Kd α} {V : α → Prop} (ht : P.underlying t = some (.slice e)) (hc : P.cellsOf e = d.sz) (he : Opens P e d V) :
    Opens P t (Kd.slice e d) (fun xs_ => xs_.length ≤ 9223372036854775807 ∧ ∀ x_ ∈ xs_, V x_) := by
  intro H enc w base spare held fuel cs x h
  rcases open_slice ht h with ⟨rfl, _⟩ | ⟨a, len, cap, m, n, D, Pl, rfl, hb, hl, hm, hmm, hx, hi⟩
  · exact ⟨[], ⟨none, 0, rfl, by simp, ⟨rfl, by simp, fun h => absurd h (Nat.lt_irrefl 0)⟩⟩, by simp, by simp⟩
  · have hlm : len ≤ m := by rw [hmm]; split <;> omega
    obtain ⟨xs, hxl, hxs⟩ := pick_list (Q := fun i y => (∃ cs', w.cells? base (a.add (i * P.cellsOf e)) (P.cellsOf e) = some cs' ∧ d.K w y cs') ∧ V y) len (fun i hlt => by
      obtain ⟨cs', h1, h2⟩ := hi i (by omega)
      obtain ⟨y, hk, hv⟩ := he enc w base spare held n cs' _ h2
      exact ⟨y, ⟨cs', h1, hk⟩, hv⟩)
    have hmax : xs.length ≤ 9223372036854775807 := by unfold maxLen at hm; omega
    refine ⟨xs, ⟨some a, cap, by rw [hxl], by omega, ⟨rfl, hmax, fun _ => ⟨a, rfl, fun j p hj => ?_⟩⟩⟩, hmax, fun y hy => ?_⟩
    · obtain ⟨⟨cs', h1, hk⟩, _⟩ := hxs j p hj
      obtain ⟨_, hcl, hat⟩ := World.cells?_some h1
      refine ⟨cs', d.K_len hk, hk, fun i u hu => ?_⟩
      have hlt : i < cs'.length := (List.getElem?_eq_some_iff.1 hu).1
      have := hat i (by omega)
      rw [Go.Deep.add_add, hu, hc] at this
      exact this
    · obtain ⟨j, hj⟩ := List.getElem?_of_mem hy
      exact (hxs j y hj).2
theorem len2 {cs : List Value} (h : cs.length = 2) : ∃ d0 d1, cs = [d0, d1] := by
  match cs, h with
  | [d0, d1], _ => exact ⟨d0, d1, rfl⟩
theorem len5 {cs : List Value} (h : cs.length = 5) : ∃ d0 d1 d2 d3 d4, cs = [d0, d1, d2, d3, d4] := by
  match cs, h with
  | [d0, d1, d2, d3, d4], _ => exact ⟨d0, d1, d2, d3, d4, rfl⟩
theorem cells115 : Try.prog.cellsOf 115 = 5 := by kernel_rfl
theorem open115 {H : Type} {enc : TypeId × Value → H} {w : World} {base : Nat} {spare : Nat → Bool} {held : Bool} {fuel : Nat} {cs : List Value} {x : DataW H × List MemPlace} (h : DataW.trod enc Try.prog w base spare held fuel 115 cs = some x) :
    ∃ (a_0 : Int) (a_1 : Int) (a_2 : Int) (a_3 : Int) (a_4 : Int), cs = [.int .i64 a_0, .int .i64 a_1, .int .i64 a_2, .int .i64 a_3, .int .i64 a_4] ∧ (Lit.int .i64 a_0).wf = true ∧ (Lit.int .i64 a_1).wf = true ∧ (Lit.int .i64 a_2).wf = true ∧ (Lit.int .i64 a_3).wf = true ∧ (Lit.int .i64 a_4).wf = true := by
  obtain ⟨xs, n, _, _, hl, hlen, hf⟩ := DataW.trod_struct Try.underlying115 h
  rw [cells115] at hl
  obtain ⟨d0, d1, d2, d3, d4, rfl⟩ := len5 hl
  · skip
    have g0 : ∃ y, DataW.trod enc Try.prog w base spare held n 3 [d0] = some y := by
      have g := hf 0 _ rfl
      rw [List.getElem?_eq_getElem (by rw [hlen]; decide)] at g
      exact ⟨_, by simpa [show Try.prog.cellsOf 3 = 1 from by kernel_rfl] using g⟩
    obtain ⟨y0, hy0⟩ := g0
    obtain ⟨a_0, e0, _, w_0⟩ := DataW.trod_int Try.underlying3 hy0
    simp only [List.cons.injEq, and_true] at e0
    obtain rfl := e0
    have g1 : ∃ y, DataW.trod enc Try.prog w base spare held n 3 [d1] = some y := by
      have g := hf 1 _ rfl
      rw [List.getElem?_eq_getElem (by rw [hlen]; decide)] at g
      exact ⟨_, by simpa [show Try.prog.cellsOf 3 = 1 from by kernel_rfl] using g⟩
    obtain ⟨y1, hy1⟩ := g1
    obtain ⟨a_1, e1, _, w_1⟩ := DataW.trod_int Try.underlying3 hy1
    simp only [List.cons.injEq, and_true] at e1
    obtain rfl := e1
    have g2 : ∃ y, DataW.trod enc Try.prog w base spare held n 3 [d2] = some y := by
      have g := hf 2 _ rfl
      rw [List.getElem?_eq_getElem (by rw [hlen]; decide)] at g
      exact ⟨_, by simpa [show Try.prog.cellsOf 3 = 1 from by kernel_rfl] using g⟩
    obtain ⟨y2, hy2⟩ := g2
    obtain ⟨a_2, e2, _, w_2⟩ := DataW.trod_int Try.underlying3 hy2
    simp only [List.cons.injEq, and_true] at e2
    obtain rfl := e2
    have g3 : ∃ y, DataW.trod enc Try.prog w base spare held n 3 [d3] = some y := by
      have g := hf 3 _ rfl
      rw [List.getElem?_eq_getElem (by rw [hlen]; decide)] at g
      exact ⟨_, by simpa [show Try.prog.cellsOf 3 = 1 from by kernel_rfl] using g⟩
    obtain ⟨y3, hy3⟩ := g3
    obtain ⟨a_3, e3, _, w_3⟩ := DataW.trod_int Try.underlying3 hy3
    simp only [List.cons.injEq, and_true] at e3
    obtain rfl := e3
    have g4 : ∃ y, DataW.trod enc Try.prog w base spare held n 3 [d4] = some y := by
      have g := hf 4 _ rfl
      rw [List.getElem?_eq_getElem (by rw [hlen]; decide)] at g
      exact ⟨_, by simpa [show Try.prog.cellsOf 3 = 1 from by kernel_rfl] using g⟩
    obtain ⟨y4, hy4⟩ := g4
    obtain ⟨a_4, e4, _, w_4⟩ := DataW.trod_int Try.underlying3 hy4
    simp only [List.cons.injEq, and_true] at e4
    obtain rfl := e4
    exact ⟨a_0, a_1, a_2, a_3, a_4, rfl, w_0, w_1, w_2, w_3, w_4⟩
theorem opens115 : Opens Try.prog 115 k115 (fun _ => True) := by
  intro H enc w base spare held fuel cs x h
  obtain ⟨a_0, a_1, a_2, a_3, a_4, rfl, _, _, _, _, _⟩ := open115 h
  exact ⟨⟨a_0, a_1, a_2, a_3, a_4⟩, k115_mk _ _, trivial⟩
theorem cells41 : Try.prog.cellsOf 41 = 2 := by kernel_rfl
theorem open41 {H : Type} {enc : TypeId × Value → H} {w : World} {base : Nat} {spare : Nat → Bool} {held : Bool} {fuel : Nat} {cs : List Value} {x : DataW H × List MemPlace} (h : DataW.trod enc Try.prog w base spare held fuel 41 cs = some x) :
    ∃ (A_0 : Option Addr) (c_0 : Nat) (l_0 : (List Int)) (A_1 : Option Addr) (c_1 : Nat) (l_1 : (List S115)), cs = [.slice A_0 l_0.length c_0, .slice A_1 l_1.length c_1] ∧ (Kd.C (Kd.int .i64) w A_0 l_0.length l_0 ∧ l_0.length ≤ c_0 ∧ (fun xs_ => xs_.length ≤ 9223372036854775807 ∧ ∀ x_ ∈ xs_, (fun n_ : Int => (Lit.int .i64 n_).wf = true) x_) l_0) ∧ (Kd.C k115 w A_1 l_1.length l_1 ∧ l_1.length ≤ c_1 ∧ (fun xs_ => xs_.length ≤ 9223372036854775807 ∧ ∀ x_ ∈ xs_, (fun _ => True) x_) l_1) := by
  obtain ⟨xs, n, _, _, hl, hlen, hf⟩ := DataW.trod_struct Try.underlying41 h
  rw [cells41] at hl
  obtain ⟨d0, d1, rfl⟩ := len2 hl
  · skip
    have g0 : ∃ y, DataW.trod enc Try.prog w base spare held n 22 [d0] = some y := by
      have g := hf 0 _ rfl
      rw [List.getElem?_eq_getElem (by rw [hlen]; decide)] at g
      exact ⟨_, by simpa [show Try.prog.cellsOf 22 = 1 from by kernel_rfl] using g⟩
    obtain ⟨y0, hy0⟩ := g0
    obtain ⟨l_0, ⟨A_0, c_0, e0, hc_0, hC_0⟩, hV_0⟩ := (opens_slice Try.underlying22 (by kernel_rfl) (opens_int Try.underlying3)) enc w base spare held n _ _ hy0
    simp only [List.cons.injEq, and_true] at e0
    obtain rfl := e0
    have g1 : ∃ y, DataW.trod enc Try.prog w base spare held n 39 [d1] = some y := by
      have g := hf 1 _ rfl
      rw [List.getElem?_eq_getElem (by rw [hlen]; decide)] at g
      exact ⟨_, by simpa [show Try.prog.cellsOf 39 = 1 from by kernel_rfl] using g⟩
    obtain ⟨y1, hy1⟩ := g1
    obtain ⟨l_1, ⟨A_1, c_1, e1, hc_1, hC_1⟩, hV_1⟩ := (opens_slice Try.underlying39 (by kernel_rfl) opens115) enc w base spare held n _ _ hy1
    simp only [List.cons.injEq, and_true] at e1
    obtain rfl := e1
    exact ⟨A_0, c_0, l_0, A_1, c_1, l_1, rfl, ⟨hC_0, hc_0, hV_0⟩, ⟨hC_1, hc_1, hV_1⟩⟩
end Go.Proofs.Ytodmelfgkhebjaa.Open
