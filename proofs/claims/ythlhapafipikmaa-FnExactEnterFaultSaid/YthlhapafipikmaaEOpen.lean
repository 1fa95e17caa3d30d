/- What a law is handed, opened: a struct's cells, and what its slices hold. No condition: it is said of whatever can be read as data. -/
import Derived.ProofKit
import Derived.Deep.Slices
import Derived.Test.YthlhapafipikmaaEWMore
import Derived.Test.YthlhapafipikmaaEx0
namespace Go.Proofs.Ythlhapafipikmaa.Open
open Go.ChangeShapes Go.WideShapes Go.ChangeAt Go.Deep Go.RowKit Go.Proofs.YthlhapafipikmaaW.PrintWords
open Go.Proofs.Ythlhapafipikmaa.E
set_option linter.unusedVariables false
set_option linter.unusedSimpArgs false
theorem pick_list {α : Type} {Q : Nat → α → Prop} : ∀ n : Nat, (∀ i, i < n → ∃ a, Q i a) → ∃ xs : List α, xs.length = n ∧ ∀ i a, xs[i]? = some a → Q i a
  | 0, _ => ⟨[], rfl, fun i a h => by simp at h⟩
  | n + 1, h => by
    obtain ⟨xs, hl, hx⟩ := pick_list n (fun i hi => h i (by omega))
    obtain ⟨a, ha⟩ := h n (by omega)
    refine ⟨xs ++ [a], by simp [hl], fun i b hb => ?_⟩
    rcases Nat.lt_or_ge i n with hi | hi
    · rw [List.getElem?_append_left (by omega)] at hb
      exact hx i b hb
    · have hlt : i < (xs ++ [a]).length := (List.getElem?_eq_some_iff.1 hb).1
      obtain rfl : i = n := by simp at hlt; omega
      rw [List.getElem?_append_right (by omega)] at hb
      simp [hl] at hb
      subst hb
      exact ha
/-- What is read at type t as data reads as a value of kind d, of which V holds. -/
def Opens {α : Type} (P : Program) (t : TypeId) (d : Kd α) (V : α → Prop) : Prop :=
  ∀ {H : Type} (enc : TypeId × Value → H) (w : World) (base : Nat) (spare : Nat → Bool) (held : Bool) (fuel : Nat) (cs : List Value) (x : DataW H × List MemPlace),
    DataW.trod enc P w base spare held fuel t cs = some x → ∃ a, d.K w a cs ∧ V a
theorem opens_int {P : Program} {t : TypeId} {k_ : IntKind} (ht : P.underlying t = some (.int k_)) : Opens P t (Kd.int k_) (fun n_ : Int => (Lit.int k_ n_).wf = true) := by
  intro H enc w base spare held fuel cs x h
  obtain ⟨n, rfl, _, hw⟩ := DataW.trod_int ht h
  exact ⟨n, rfl, hw⟩
theorem opens_bool {P : Program} {t : TypeId} (ht : P.underlying t = some .bool) : Opens P t Kd.bool (fun _ => True) := by
  intro H enc w base spare held fuel cs x h
  obtain ⟨b, rfl, _⟩ := DataW.trod_bool ht h
  exact ⟨b, rfl, trivial⟩
theorem opens_slice {α : Type} {P : Program} {t e : TypeId} {d : Kd α} {V : α → Prop} (ht : P.underlying t = some (.slice e)) (hc : P.cellsOf e = d.sz) (he : Opens P e d V) :
    Opens P t (Kd.slice e d) (fun xs_ => xs_.length ≤ 9223372036854775807 ∧ ∀ x_ ∈ xs_, V x_) := by
  intro H enc w base spare held fuel cs x h
  rcases open_slice ht h with ⟨rfl, _⟩ | ⟨a, len, cap, m, n, D, Pl, rfl, hb, hl, hm, hmm, hx, hi⟩
  · exact ⟨[], ⟨none, 0, rfl, by simp, ⟨rfl, by simp, fun h => absurd h (Nat.lt_irrefl 0)⟩⟩, by simp, by simp⟩
  · have hlm : len ≤ m := by rw [hmm]; split <;> omega
    obtain ⟨xs, hxl, hxs⟩ := pick_list (Q := fun i y => (∃ cs', w.cells? base (a.add (i * P.cellsOf e)) (P.cellsOf e) = some cs' ∧ d.K w y cs') ∧ V y) len (fun i hlt => by
      obtain ⟨cs', h1, h2⟩ := hi i (by omega)
      obtain ⟨y, hk, hv⟩ := he enc w base spare held n cs' _ h2
      exact ⟨y, ⟨cs', h1, hk⟩, hv⟩)
    have hmax : xs.length ≤ 9223372036854775807 := by unfold maxLen at hm; omega
    refine ⟨xs, ⟨some a, cap, by rw [hxl], by omega, ⟨rfl, hmax, fun _ => ⟨a, rfl, fun j p hj => ?_⟩⟩⟩, hmax, fun y hy => ?_⟩
    · obtain ⟨⟨cs', h1, hk⟩, _⟩ := hxs j p hj
      obtain ⟨_, hcl, hat⟩ := World.cells?_some h1
      refine ⟨cs', d.K_len hk, hk, fun i u hu => ?_⟩
      have hlt : i < cs'.length := (List.getElem?_eq_some_iff.1 hu).1
      have := hat i (by omega)
      rw [Go.Deep.add_add, hu, hc] at this
      exact this
    · obtain ⟨j, hj⟩ := List.getElem?_of_mem hy
      exact (hxs j y hj).2
theorem len2 {cs : List Value} (h : cs.length = 2) : ∃ d0 d1, cs = [d0, d1] := by
  match cs, h with
  | [d0, d1], _ => exact ⟨d0, d1, rfl⟩
theorem len5 {cs : List Value} (h : cs.length = 5) : ∃ d0 d1 d2 d3 d4, cs = [d0, d1, d2, d3, d4] := by
  match cs, h with
  | [d0, d1, d2, d3, d4], _ => exact ⟨d0, d1, d2, d3, d4, rfl⟩
theorem len8 {cs : List Value} (h : cs.length = 8) : ∃ d0 d1 d2 d3 d4 d5 d6 d7, cs = [d0, d1, d2, d3, d4, d5, d6, d7] := by
  match cs, h with
  | [d0, d1, d2, d3, d4, d5, d6, d7], _ => exact ⟨d0, d1, d2, d3, d4, d5, d6, d7, rfl⟩
theorem len12 {cs : List Value} (h : cs.length = 12) : ∃ d0 d1 d2 d3 d4 d5 d6 d7 d8 d9 d10 d11, cs = [d0, d1, d2, d3, d4, d5, d6, d7, d8, d9, d10, d11] := by
  match cs, h with
  | [d0, d1, d2, d3, d4, d5, d6, d7, d8, d9, d10, d11], _ => exact ⟨d0, d1, d2, d3, d4, d5, d6, d7, d8, d9, d10, d11, rfl⟩
theorem cells24 : Try.prog.cellsOf 24 = 8 := by kernel_rfl
theorem open24 {H : Type} {enc : TypeId × Value → H} {w : World} {base : Nat} {spare : Nat → Bool} {held : Bool} {fuel : Nat} {cs : List Value} {x : DataW H × List MemPlace} (h : DataW.trod enc Try.prog w base spare held fuel 24 cs = some x) :
    ∃ (A_0 : Option Addr) (c_0 : Nat) (l_0 : (List Int)) (A_1 : Option Addr) (c_1 : Nat) (l_1 : (List Int)) (a_2 : Int) (a_3 : Int) (a_4 : Int) (a_5 : Int) (a_6 : Bool) (a_7 : Bool), cs = [.slice A_0 l_0.length c_0, .slice A_1 l_1.length c_1, .int .i64 a_2, .int .i64 a_3, .int .i64 a_4, .int .i64 a_5, .bool a_6, .bool a_7] ∧ (Kd.C (Kd.int .i64) w A_0 l_0.length l_0 ∧ l_0.length ≤ c_0 ∧ (fun xs_ => xs_.length ≤ 9223372036854775807 ∧ ∀ x_ ∈ xs_, (fun n_ : Int => (Lit.int .i64 n_).wf = true) x_) l_0) ∧ (Kd.C (Kd.int .i64) w A_1 l_1.length l_1 ∧ l_1.length ≤ c_1 ∧ (fun xs_ => xs_.length ≤ 9223372036854775807 ∧ ∀ x_ ∈ xs_, (fun n_ : Int => (Lit.int .i64 n_).wf = true) x_) l_1) ∧ (Lit.int .i64 a_2).wf = true ∧ (Lit.int .i64 a_3).wf = true ∧ (Lit.int .i64 a_4).wf = true ∧ (Lit.int .i64 a_5).wf = true := by
  obtain ⟨xs, n, _, _, hl, hlen, hf⟩ := DataW.trod_struct Try.underlying24 h
  rw [cells24] at hl
  obtain ⟨d0, d1, d2, d3, d4, d5, d6, d7, rfl⟩ := len8 hl
  · skip
    have g0 : ∃ y, DataW.trod enc Try.prog w base spare held n 22 [d0] = some y := by
      have g := hf 0 _ rfl
      rw [List.getElem?_eq_getElem (by rw [hlen]; decide)] at g
      exact ⟨_, by simpa [show Try.prog.cellsOf 22 = 1 from by kernel_rfl] using g⟩
    obtain ⟨y0, hy0⟩ := g0
    obtain ⟨l_0, ⟨A_0, c_0, e0, hc_0, hC_0⟩, hV_0⟩ := (opens_slice Try.underlying22 (by kernel_rfl) (opens_int Try.underlying3)) enc w base spare held n _ _ hy0
    simp only [List.cons.injEq, and_true] at e0
    obtain rfl := e0
    have g1 : ∃ y, DataW.trod enc Try.prog w base spare held n 22 [d1] = some y := by
      have g := hf 1 _ rfl
      rw [List.getElem?_eq_getElem (by rw [hlen]; decide)] at g
      exact ⟨_, by simpa [show Try.prog.cellsOf 22 = 1 from by kernel_rfl] using g⟩
    obtain ⟨y1, hy1⟩ := g1
    obtain ⟨l_1, ⟨A_1, c_1, e1, hc_1, hC_1⟩, hV_1⟩ := (opens_slice Try.underlying22 (by kernel_rfl) (opens_int Try.underlying3)) enc w base spare held n _ _ hy1
    simp only [List.cons.injEq, and_true] at e1
    obtain rfl := e1
    have g2 : ∃ y, DataW.trod enc Try.prog w base spare held n 3 [d2] = some y := by
      have g := hf 2 _ rfl
      rw [List.getElem?_eq_getElem (by rw [hlen]; decide)] at g
      exact ⟨_, by simpa [show Try.prog.cellsOf 3 = 1 from by kernel_rfl] using g⟩
    obtain ⟨y2, hy2⟩ := g2
    obtain ⟨a_2, e2, _, w_2⟩ := DataW.trod_int Try.underlying3 hy2
    simp only [List.cons.injEq, and_true] at e2
    obtain rfl := e2
    have g3 : ∃ y, DataW.trod enc Try.prog w base spare held n 3 [d3] = some y := by
      have g := hf 3 _ rfl
      rw [List.getElem?_eq_getElem (by rw [hlen]; decide)] at g
      exact ⟨_, by simpa [show Try.prog.cellsOf 3 = 1 from by kernel_rfl] using g⟩
    obtain ⟨y3, hy3⟩ := g3
    obtain ⟨a_3, e3, _, w_3⟩ := DataW.trod_int Try.underlying3 hy3
    simp only [List.cons.injEq, and_true] at e3
    obtain rfl := e3
    have g4 : ∃ y, DataW.trod enc Try.prog w base spare held n 3 [d4] = some y := by
      have g := hf 4 _ rfl
      rw [List.getElem?_eq_getElem (by rw [hlen]; decide)] at g
      exact ⟨_, by simpa [show Try.prog.cellsOf 3 = 1 from by kernel_rfl] using g⟩
    obtain ⟨y4, hy4⟩ := g4
    obtain ⟨a_4, e4, _, w_4⟩ := DataW.trod_int Try.underlying3 hy4
    simp only [List.cons.injEq, and_true] at e4
    obtain rfl := e4
    have g5 : ∃ y, DataW.trod enc Try.prog w base spare held n 3 [d5] = some y := by
      have g := hf 5 _ rfl
      rw [List.getElem?_eq_getElem (by rw [hlen]; decide)] at g
      exact ⟨_, by simpa [show Try.prog.cellsOf 3 = 1 from by kernel_rfl] using g⟩
    obtain ⟨y5, hy5⟩ := g5
    obtain ⟨a_5, e5, _, w_5⟩ := DataW.trod_int Try.underlying3 hy5
    simp only [List.cons.injEq, and_true] at e5
    obtain rfl := e5
    have g6 : ∃ y, DataW.trod enc Try.prog w base spare held n 4 [d6] = some y := by
      have g := hf 6 _ rfl
      rw [List.getElem?_eq_getElem (by rw [hlen]; decide)] at g
      exact ⟨_, by simpa [show Try.prog.cellsOf 4 = 1 from by kernel_rfl] using g⟩
    obtain ⟨y6, hy6⟩ := g6
    obtain ⟨a_6, e6, _⟩ := DataW.trod_bool Try.underlying4 hy6
    simp only [List.cons.injEq, and_true] at e6
    obtain rfl := e6
    have g7 : ∃ y, DataW.trod enc Try.prog w base spare held n 4 [d7] = some y := by
      have g := hf 7 _ rfl
      rw [List.getElem?_eq_getElem (by rw [hlen]; decide)] at g
      exact ⟨_, by simpa [show Try.prog.cellsOf 4 = 1 from by kernel_rfl] using g⟩
    obtain ⟨y7, hy7⟩ := g7
    obtain ⟨a_7, e7, _⟩ := DataW.trod_bool Try.underlying4 hy7
    simp only [List.cons.injEq, and_true] at e7
    obtain rfl := e7
    exact ⟨A_0, c_0, l_0, A_1, c_1, l_1, a_2, a_3, a_4, a_5, a_6, a_7, rfl, ⟨hC_0, hc_0, hV_0⟩, ⟨hC_1, hc_1, hV_1⟩, w_2, w_3, w_4, w_5⟩
theorem cells120 : Try.prog.cellsOf 120 = 5 := by kernel_rfl
theorem open120 {H : Type} {enc : TypeId × Value → H} {w : World} {base : Nat} {spare : Nat → Bool} {held : Bool} {fuel : Nat} {cs : List Value} {x : DataW H × List MemPlace} (h : DataW.trod enc Try.prog w base spare held fuel 120 cs = some x) :
    ∃ (a_0 : Int) (a_1 : Int) (a_2 : Int) (a_3 : Int) (a_4 : Int), cs = [.int .i64 a_0, .int .i64 a_1, .int .i64 a_2, .int .i64 a_3, .int .i64 a_4] ∧ (Lit.int .i64 a_0).wf = true ∧ (Lit.int .i64 a_1).wf = true ∧ (Lit.int .i64 a_2).wf = true ∧ (Lit.int .i64 a_3).wf = true ∧ (Lit.int .i64 a_4).wf = true := by
  obtain ⟨xs, n, _, _, hl, hlen, hf⟩ := DataW.trod_struct Try.underlying120 h
  rw [cells120] at hl
  obtain ⟨d0, d1, d2, d3, d4, rfl⟩ := len5 hl
  · skip
    have g0 : ∃ y, DataW.trod enc Try.prog w base spare held n 3 [d0] = some y := by
      have g := hf 0 _ rfl
      rw [List.getElem?_eq_getElem (by rw [hlen]; decide)] at g
      exact ⟨_, by simpa [show Try.prog.cellsOf 3 = 1 from by kernel_rfl] using g⟩
    obtain ⟨y0, hy0⟩ := g0
    obtain ⟨a_0, e0, _, w_0⟩ := DataW.trod_int Try.underlying3 hy0
    simp only [List.cons.injEq, and_true] at e0
    obtain rfl := e0
    have g1 : ∃ y, DataW.trod enc Try.prog w base spare held n 3 [d1] = some y := by
      have g := hf 1 _ rfl
      rw [List.getElem?_eq_getElem (by rw [hlen]; decide)] at g
      exact ⟨_, by simpa [show Try.prog.cellsOf 3 = 1 from by kernel_rfl] using g⟩
    obtain ⟨y1, hy1⟩ := g1
    obtain ⟨a_1, e1, _, w_1⟩ := DataW.trod_int Try.underlying3 hy1
    simp only [List.cons.injEq, and_true] at e1
    obtain rfl := e1
    have g2 : ∃ y, DataW.trod enc Try.prog w base spare held n 3 [d2] = some y := by
      have g := hf 2 _ rfl
      rw [List.getElem?_eq_getElem (by rw [hlen]; decide)] at g
      exact ⟨_, by simpa [show Try.prog.cellsOf 3 = 1 from by kernel_rfl] using g⟩
    obtain ⟨y2, hy2⟩ := g2
    obtain ⟨a_2, e2, _, w_2⟩ := DataW.trod_int Try.underlying3 hy2
    simp only [List.cons.injEq, and_true] at e2
    obtain rfl := e2
    have g3 : ∃ y, DataW.trod enc Try.prog w base spare held n 3 [d3] = some y := by
      have g := hf 3 _ rfl
      rw [List.getElem?_eq_getElem (by rw [hlen]; decide)] at g
      exact ⟨_, by simpa [show Try.prog.cellsOf 3 = 1 from by kernel_rfl] using g⟩
    obtain ⟨y3, hy3⟩ := g3
    obtain ⟨a_3, e3, _, w_3⟩ := DataW.trod_int Try.underlying3 hy3
    simp only [List.cons.injEq, and_true] at e3
    obtain rfl := e3
    have g4 : ∃ y, DataW.trod enc Try.prog w base spare held n 3 [d4] = some y := by
      have g := hf 4 _ rfl
      rw [List.getElem?_eq_getElem (by rw [hlen]; decide)] at g
      exact ⟨_, by simpa [show Try.prog.cellsOf 3 = 1 from by kernel_rfl] using g⟩
    obtain ⟨y4, hy4⟩ := g4
    obtain ⟨a_4, e4, _, w_4⟩ := DataW.trod_int Try.underlying3 hy4
    simp only [List.cons.injEq, and_true] at e4
    obtain rfl := e4
    exact ⟨a_0, a_1, a_2, a_3, a_4, rfl, w_0, w_1, w_2, w_3, w_4⟩
theorem opens120 : Opens Try.prog 120 k120 (fun _ => True) := by
  intro H enc w base spare held fuel cs x h
  obtain ⟨a_0, a_1, a_2, a_3, a_4, rfl, _, _, _, _, _⟩ := open120 h
  exact ⟨⟨a_0, a_1, a_2, a_3, a_4⟩, k120_mk _ _, trivial⟩
theorem cells27 : Try.prog.cellsOf 27 = 2 := by kernel_rfl
theorem open27 {H : Type} {enc : TypeId × Value → H} {w : World} {base : Nat} {spare : Nat → Bool} {held : Bool} {fuel : Nat} {cs : List Value} {x : DataW H × List MemPlace} (h : DataW.trod enc Try.prog w base spare held fuel 27 cs = some x) :
    ∃ (A_0 : Option Addr) (c_0 : Nat) (l_0 : (List Int)) (A_1 : Option Addr) (c_1 : Nat) (l_1 : (List S120)), cs = [.slice A_0 l_0.length c_0, .slice A_1 l_1.length c_1] ∧ (Kd.C (Kd.int .i64) w A_0 l_0.length l_0 ∧ l_0.length ≤ c_0 ∧ (fun xs_ => xs_.length ≤ 9223372036854775807 ∧ ∀ x_ ∈ xs_, (fun n_ : Int => (Lit.int .i64 n_).wf = true) x_) l_0) ∧ (Kd.C k120 w A_1 l_1.length l_1 ∧ l_1.length ≤ c_1 ∧ (fun xs_ => xs_.length ≤ 9223372036854775807 ∧ ∀ x_ ∈ xs_, (fun _ => True) x_) l_1) := by
  obtain ⟨xs, n, _, _, hl, hlen, hf⟩ := DataW.trod_struct Try.underlying27 h
  rw [cells27] at hl
  obtain ⟨d0, d1, rfl⟩ := len2 hl
  · skip
    have g0 : ∃ y, DataW.trod enc Try.prog w base spare held n 22 [d0] = some y := by
      have g := hf 0 _ rfl
      rw [List.getElem?_eq_getElem (by rw [hlen]; decide)] at g
      exact ⟨_, by simpa [show Try.prog.cellsOf 22 = 1 from by kernel_rfl] using g⟩
    obtain ⟨y0, hy0⟩ := g0
    obtain ⟨l_0, ⟨A_0, c_0, e0, hc_0, hC_0⟩, hV_0⟩ := (opens_slice Try.underlying22 (by kernel_rfl) (opens_int Try.underlying3)) enc w base spare held n _ _ hy0
    simp only [List.cons.injEq, and_true] at e0
    obtain rfl := e0
    have g1 : ∃ y, DataW.trod enc Try.prog w base spare held n 25 [d1] = some y := by
      have g := hf 1 _ rfl
      rw [List.getElem?_eq_getElem (by rw [hlen]; decide)] at g
      exact ⟨_, by simpa [show Try.prog.cellsOf 25 = 1 from by kernel_rfl] using g⟩
    obtain ⟨y1, hy1⟩ := g1
    obtain ⟨l_1, ⟨A_1, c_1, e1, hc_1, hC_1⟩, hV_1⟩ := (opens_slice Try.underlying25 (by kernel_rfl) opens120) enc w base spare held n _ _ hy1
    simp only [List.cons.injEq, and_true] at e1
    obtain rfl := e1
    exact ⟨A_0, c_0, l_0, A_1, c_1, l_1, rfl, ⟨hC_0, hc_0, hV_0⟩, ⟨hC_1, hc_1, hV_1⟩⟩
theorem cells29 : Try.prog.cellsOf 29 = 12 := by kernel_rfl
theorem open29 {H : Type} {enc : TypeId × Value → H} {w : World} {base : Nat} {spare : Nat → Bool} {held : Bool} {fuel : Nat} {cs : List Value} {x : DataW H × List MemPlace} (h : DataW.trod enc Try.prog w base spare held fuel 29 cs = some x) :
    ∃ (A_0 : Option Addr) (c_0 : Nat) (l_0 : (List Int)) (A_1 : Option Addr) (c_1 : Nat) (l_1 : (List Int)) (a_2 : Int) (a_3 : Int) (a_4 : Int) (a_5 : Int) (a_6 : Bool) (a_7 : Bool) (A_8 : Option Addr) (c_8 : Nat) (l_8 : (List Int)) (A_9 : Option Addr) (c_9 : Nat) (l_9 : (List S120)) (a_10 : Bool) (a_11 : Bool), cs = [.slice A_0 l_0.length c_0, .slice A_1 l_1.length c_1, .int .i64 a_2, .int .i64 a_3, .int .i64 a_4, .int .i64 a_5, .bool a_6, .bool a_7, .slice A_8 l_8.length c_8, .slice A_9 l_9.length c_9, .bool a_10, .bool a_11] ∧ (Kd.C (Kd.int .i64) w A_0 l_0.length l_0 ∧ l_0.length ≤ c_0 ∧ (fun xs_ => xs_.length ≤ 9223372036854775807 ∧ ∀ x_ ∈ xs_, (fun n_ : Int => (Lit.int .i64 n_).wf = true) x_) l_0) ∧ (Kd.C (Kd.int .i64) w A_1 l_1.length l_1 ∧ l_1.length ≤ c_1 ∧ (fun xs_ => xs_.length ≤ 9223372036854775807 ∧ ∀ x_ ∈ xs_, (fun n_ : Int => (Lit.int .i64 n_).wf = true) x_) l_1) ∧ (Lit.int .i64 a_2).wf = true ∧ (Lit.int .i64 a_3).wf = true ∧ (Lit.int .i64 a_4).wf = true ∧ (Lit.int .i64 a_5).wf = true ∧ (Kd.C (Kd.int .i64) w A_8 l_8.length l_8 ∧ l_8.length ≤ c_8 ∧ (fun xs_ => xs_.length ≤ 9223372036854775807 ∧ ∀ x_ ∈ xs_, (fun n_ : Int => (Lit.int .i64 n_).wf = true) x_) l_8) ∧ (Kd.C k120 w A_9 l_9.length l_9 ∧ l_9.length ≤ c_9 ∧ (fun xs_ => xs_.length ≤ 9223372036854775807 ∧ ∀ x_ ∈ xs_, (fun _ => True) x_) l_9) := by
  obtain ⟨xs, n, _, _, hl, hlen, hf⟩ := DataW.trod_struct Try.underlying29 h
  rw [cells29] at hl
  obtain ⟨d0, d1, d2, d3, d4, d5, d6, d7, d8, d9, d10, d11, rfl⟩ := len12 hl
  · skip
    have g0 : ∃ y, DataW.trod enc Try.prog w base spare held n 24 [d0, d1, d2, d3, d4, d5, d6, d7] = some y := by
      have g := hf 0 _ rfl
      rw [List.getElem?_eq_getElem (by rw [hlen]; decide)] at g
      exact ⟨_, by simpa [show Try.prog.cellsOf 24 = 8 from by kernel_rfl] using g⟩
    obtain ⟨y0, hy0⟩ := g0
    obtain ⟨A_0, c_0, l_0, A_1, c_1, l_1, a_2, a_3, a_4, a_5, a_6, a_7, e0, w_0, w_1, w_2, w_3, w_4, w_5⟩ := open24 hy0
    simp only [List.cons.injEq, and_true] at e0
    obtain ⟨rfl, rfl, rfl, rfl, rfl, rfl, rfl, rfl⟩ := e0
    have g1 : ∃ y, DataW.trod enc Try.prog w base spare held n 27 [d8, d9] = some y := by
      have g := hf 1 _ rfl
      rw [List.getElem?_eq_getElem (by rw [hlen]; decide)] at g
      exact ⟨_, by simpa [show Try.prog.cellsOf 27 = 2 from by kernel_rfl] using g⟩
    obtain ⟨y1, hy1⟩ := g1
    obtain ⟨A_8, c_8, l_8, A_9, c_9, l_9, e1, w_8, w_9⟩ := open27 hy1
    simp only [List.cons.injEq, and_true] at e1
    obtain ⟨rfl, rfl⟩ := e1
    have g2 : ∃ y, DataW.trod enc Try.prog w base spare held n 4 [d10] = some y := by
      have g := hf 2 _ rfl
      rw [List.getElem?_eq_getElem (by rw [hlen]; decide)] at g
      exact ⟨_, by simpa [show Try.prog.cellsOf 4 = 1 from by kernel_rfl] using g⟩
    obtain ⟨y2, hy2⟩ := g2
    obtain ⟨a_10, e2, _⟩ := DataW.trod_bool Try.underlying4 hy2
    simp only [List.cons.injEq, and_true] at e2
    obtain rfl := e2
    have g3 : ∃ y, DataW.trod enc Try.prog w base spare held n 4 [d11] = some y := by
      have g := hf 3 _ rfl
      rw [List.getElem?_eq_getElem (by rw [hlen]; decide)] at g
      exact ⟨_, by simpa [show Try.prog.cellsOf 4 = 1 from by kernel_rfl] using g⟩
    obtain ⟨y3, hy3⟩ := g3
    obtain ⟨a_11, e3, _⟩ := DataW.trod_bool Try.underlying4 hy3
    simp only [List.cons.injEq, and_true] at e3
    obtain rfl := e3
    exact ⟨A_0, c_0, l_0, A_1, c_1, l_1, a_2, a_3, a_4, a_5, a_6, a_7, A_8, c_8, l_8, A_9, c_9, l_9, a_10, a_11, rfl, w_0, w_1, w_2, w_3, w_4, w_5, w_8, w_9⟩
theorem cells47 : Try.prog.cellsOf 47 = 5 := by kernel_rfl
theorem open47 {H : Type} {enc : TypeId × Value → H} {w : World} {base : Nat} {spare : Nat → Bool} {held : Bool} {fuel : Nat} {cs : List Value} {x : DataW H × List MemPlace} (h : DataW.trod enc Try.prog w base spare held fuel 47 cs = some x) :
    ∃ (a_0 : Int) (a_1 : Int) (a_2 : Int) (a_3 : Int) (a_4 : Bool), cs = [.int .i64 a_0, .int .i64 a_1, .int .i64 a_2, .int .i64 a_3, .bool a_4] ∧ (Lit.int .i64 a_0).wf = true ∧ (Lit.int .i64 a_1).wf = true ∧ (Lit.int .i64 a_2).wf = true ∧ (Lit.int .i64 a_3).wf = true := by
  obtain ⟨xs, n, _, _, hl, hlen, hf⟩ := DataW.trod_struct Try.underlying47 h
  rw [cells47] at hl
  obtain ⟨d0, d1, d2, d3, d4, rfl⟩ := len5 hl
  · skip
    have g0 : ∃ y, DataW.trod enc Try.prog w base spare held n 3 [d0] = some y := by
      have g := hf 0 _ rfl
      rw [List.getElem?_eq_getElem (by rw [hlen]; decide)] at g
      exact ⟨_, by simpa [show Try.prog.cellsOf 3 = 1 from by kernel_rfl] using g⟩
    obtain ⟨y0, hy0⟩ := g0
    obtain ⟨a_0, e0, _, w_0⟩ := DataW.trod_int Try.underlying3 hy0
    simp only [List.cons.injEq, and_true] at e0
    obtain rfl := e0
    have g1 : ∃ y, DataW.trod enc Try.prog w base spare held n 3 [d1] = some y := by
      have g := hf 1 _ rfl
      rw [List.getElem?_eq_getElem (by rw [hlen]; decide)] at g
      exact ⟨_, by simpa [show Try.prog.cellsOf 3 = 1 from by kernel_rfl] using g⟩
    obtain ⟨y1, hy1⟩ := g1
    obtain ⟨a_1, e1, _, w_1⟩ := DataW.trod_int Try.underlying3 hy1
    simp only [List.cons.injEq, and_true] at e1
    obtain rfl := e1
    have g2 : ∃ y, DataW.trod enc Try.prog w base spare held n 3 [d2] = some y := by
      have g := hf 2 _ rfl
      rw [List.getElem?_eq_getElem (by rw [hlen]; decide)] at g
      exact ⟨_, by simpa [show Try.prog.cellsOf 3 = 1 from by kernel_rfl] using g⟩
    obtain ⟨y2, hy2⟩ := g2
    obtain ⟨a_2, e2, _, w_2⟩ := DataW.trod_int Try.underlying3 hy2
    simp only [List.cons.injEq, and_true] at e2
    obtain rfl := e2
    have g3 : ∃ y, DataW.trod enc Try.prog w base spare held n 3 [d3] = some y := by
      have g := hf 3 _ rfl
      rw [List.getElem?_eq_getElem (by rw [hlen]; decide)] at g
      exact ⟨_, by simpa [show Try.prog.cellsOf 3 = 1 from by kernel_rfl] using g⟩
    obtain ⟨y3, hy3⟩ := g3
    obtain ⟨a_3, e3, _, w_3⟩ := DataW.trod_int Try.underlying3 hy3
    simp only [List.cons.injEq, and_true] at e3
    obtain rfl := e3
    have g4 : ∃ y, DataW.trod enc Try.prog w base spare held n 4 [d4] = some y := by
      have g := hf 4 _ rfl
      rw [List.getElem?_eq_getElem (by rw [hlen]; decide)] at g
      exact ⟨_, by simpa [show Try.prog.cellsOf 4 = 1 from by kernel_rfl] using g⟩
    obtain ⟨y4, hy4⟩ := g4
    obtain ⟨a_4, e4, _⟩ := DataW.trod_bool Try.underlying4 hy4
    simp only [List.cons.injEq, and_true] at e4
    obtain rfl := e4
    exact ⟨a_0, a_1, a_2, a_3, a_4, rfl, w_0, w_1, w_2, w_3⟩
end Go.Proofs.Ythlhapafipikmaa.Open
