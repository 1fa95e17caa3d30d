/- Short words for steps of a walk that leave what is owned as it was: nothing is assumed. -/
import Derived.Test.YtopmacbjbjaekaaMWMore
-- made by this session's program vwords.py
namespace Go.Proofs.YtopmacbjbjaekaaW.PrintMore
open Go.RowKit Go.Proofs.YtopmacbjbjaekaaW.PrintWords Go.Proofs.YtopmacbjbjaekaaW.PrintLast
set_option linter.unusedVariables false
section
variable {α : Type} {d : Kd α} {e : Nat} {w W W2 : World} {base : Nat} {ok : Nat → Prop} {v : Value} {xs : List α}
theorem oR (h : d.R e w base ok v xs) (s : Below w.heap.size w W := by repeat (with_reducible first | exact Below.refl _ _ | apply below_alloc | apply pw_below_drewN | apply below_drew1)) : d.R e W base ok v xs := Kd.R_below h s
theorem oC {A : Option Addr} {n : Nat} (h : d.C w A n xs) (s : Below w.heap.size w W := by repeat (first | (with_reducible first | exact Aside0.out (by assumption) | exact Below.refl _ _ | apply below_alloc | apply pw_below_drewN | apply below_drew1 | refine below_set ?_ (Aside0.out (by assumption))))) : d.C W A n xs := Kd.C_below h s
theorem oB {g : Nat} {o : Obj} (h : w.heap[g]? = some o) (s : Below w.heap.size w W := by repeat (with_reducible first | exact Below.refl _ _ | apply below_alloc | apply pw_below_drewN | apply below_drew1)) : W.heap[g]? = some o := blk_below h s
theorem oL (s : Below w.heap.size w W := by repeat (first | (with_reducible first | exact Aside0.out (by assumption) | apply below_alloc | apply pw_below_drewN | apply below_drew1 | refine below_set ?_ (Aside0.out (by assumption))) | exact Aside0.out (by assumption))) : Below w.heap.size w W := s
theorem oS {g : Nat} (hg : g = W.heap.size) (s : Below w.heap.size w W) : w.heap.size ≤ g := by rw [hg]; exact below_size s
theorem oN {g g' : Nat} {o : Obj} (hg : g' = W.heap.size) (h : W.heap[g]? = some o) : g ≠ g' := by rw [hg]; exact Nat.ne_of_lt (blk_lt h)
theorem oM {g g' : Nat} {o : Obj} (hg : g' = W.heap.size) (h : W.heap[g]? = some o) : g' ≠ g := by rw [hg]; exact Nat.ne_of_gt (blk_lt h)
theorem keep_refl (w : World) (g : Nat) : KeepBut w w g none := KeepBut.refl w g none
theorem keep_put {g j : Nat} {u : Value} (h : KeepBut w W g none) : KeepBut w (W.setCell ⟨g, j, none⟩ u) g none := h.set_ j u
theorem oF {g t : Nat} {cells : Array Value} (h : d.R e w base ok v xs) (hb : w.heap[g]? = some (.cells cells t (0, 0))) (ht : ∀ q, q ∈ e :: d.E → q ≠ t := by decide)
    (s : KeepBut w W g none := by repeat (with_reducible first | exact keep_refl _ _ | apply keep_put | apply keep_alloc | apply keep_drewN | apply keep_drew)) : d.R e W base ok v xs :=
  Kd.R_mono (Kd.R_keep (Kd.R_types h hb ht) s (fun _ hk => hk.2)) (fun _ h_ => h_.1)
theorem oG {g t : Nat} {cells : Array Value} {g' : Nat} (h : w.heap[g]? = some (.cells cells t (0, 0))) (hne : g ≠ g')
    (s : KeepBut w W g' none := by repeat (with_reducible first | exact keep_refl _ _ | apply keep_put | apply keep_alloc | apply keep_drewN | apply keep_drew)) : W.heap[g]? = some (.cells cells t (0, 0)) :=
  s.blk h hne (by simp)
def Puts (g : Nat) (cs : Array Value) (w W : World) (cs' : Array Value) : Prop := ∀ t, w.heap[g]? = some (.cells cs t (0, 0)) → W.heap[g]? = some (.cells cs' t (0, 0))
theorem puts_refl {g : Nat} {cs : Array Value} : Puts g cs w w cs := fun _ h => h
theorem puts_alloc {g : Nat} {cs cs' : Array Value} (h : Puts g cs w W cs') (o : Obj) : Puts g cs w (W.alloc o) cs' := fun t k => blk_alloc (h t k) o
theorem puts_drewN {g : Nat} {cs cs' : Array Value} (h : Puts g cs w W cs') (n : Nat) : Puts g cs w (W.drewN n) cs' := fun t k => blk_drewN (h t k) n
theorem puts_drew {g : Nat} {cs cs' : Array Value} (h : Puts g cs w W cs') : Puts g cs w W.drew cs' := fun t k => blk_drew (h t k)
theorem puts_set {g j : Nat} {u : Value} {cs cs' : Array Value} (h : Puts g cs w W cs') : Puts g cs w (W.setCell ⟨g, j, none⟩ u) (cs'.setIfInBounds j u) := fun t k => blk_set (h t k) j u
theorem oP {g t : Nat} {cs cs' cs2 : Array Value} (h : w.heap[g]? = some (.cells cs t (0, 0)))
    (s : Puts g cs w W cs' := by repeat (with_reducible first | exact puts_refl | apply puts_set | apply puts_alloc | apply puts_drewN | apply puts_drew)) (q : cs' = cs2 := by first | (simp only [List.setIfInBounds_toArray, List.set_cons_zero, List.set_cons_succ]; done) | rfl) : W.heap[g]? = some (.cells cs2 t (0, 0)) := q ▸ s t h
end
theorem cz3 {w : World} {g t : Nat} {v0 v1 v2 : Value} (h : w.heap[g]? = some (.cells #[v0, v1, v2] t (0, 0))) : w.cell? ⟨g, 0, none⟩ = some v0 ∧ w.cell? ⟨g, 1, none⟩ = some v1 ∧ w.cell? ⟨g, 2, none⟩ = some v2 := ⟨(blk_cell h 0).trans rfl, (blk_cell h 1).trans rfl, (blk_cell h 2).trans rfl⟩
theorem czc3 {w : World} {g t : Nat} {v0 v1 v2 : Value} (h : w.heap[g]? = some (.cells #[v0, v1, v2] t (0, 0))) {P : Prop} (p : P) : w.cell? ⟨g, 0, none⟩ = some v0 ∧ w.cell? ⟨g, 1, none⟩ = some v1 ∧ w.cell? ⟨g, 2, none⟩ = some v2 ∧ P := ⟨(blk_cell h 0).trans rfl, (blk_cell h 1).trans rfl, (blk_cell h 2).trans rfl, p⟩
theorem fz3 {w : World} {g t : Nat} {cs : Array Value} (h : w.heap[g]? = some (.cells cs t (0, 0))) : w.frozen? ⟨g, 0, none⟩ = false ∧ w.frozen? ⟨g, 1, none⟩ = false ∧ w.frozen? ⟨g, 2, none⟩ = false := ⟨blk_frozen h 0, blk_frozen h 1, blk_frozen h 2⟩
theorem cz7 {w : World} {g t : Nat} {v0 v1 v2 v3 v4 v5 v6 : Value} (h : w.heap[g]? = some (.cells #[v0, v1, v2, v3, v4, v5, v6] t (0, 0))) : w.cell? ⟨g, 0, none⟩ = some v0 ∧ w.cell? ⟨g, 1, none⟩ = some v1 ∧ w.cell? ⟨g, 2, none⟩ = some v2 ∧ w.cell? ⟨g, 3, none⟩ = some v3 ∧ w.cell? ⟨g, 4, none⟩ = some v4 ∧ w.cell? ⟨g, 5, none⟩ = some v5 ∧ w.cell? ⟨g, 6, none⟩ = some v6 := ⟨(blk_cell h 0).trans rfl, (blk_cell h 1).trans rfl, (blk_cell h 2).trans rfl, (blk_cell h 3).trans rfl, (blk_cell h 4).trans rfl, (blk_cell h 5).trans rfl, (blk_cell h 6).trans rfl⟩
theorem czc7 {w : World} {g t : Nat} {v0 v1 v2 v3 v4 v5 v6 : Value} (h : w.heap[g]? = some (.cells #[v0, v1, v2, v3, v4, v5, v6] t (0, 0))) {P : Prop} (p : P) : w.cell? ⟨g, 0, none⟩ = some v0 ∧ w.cell? ⟨g, 1, none⟩ = some v1 ∧ w.cell? ⟨g, 2, none⟩ = some v2 ∧ w.cell? ⟨g, 3, none⟩ = some v3 ∧ w.cell? ⟨g, 4, none⟩ = some v4 ∧ w.cell? ⟨g, 5, none⟩ = some v5 ∧ w.cell? ⟨g, 6, none⟩ = some v6 ∧ P := ⟨(blk_cell h 0).trans rfl, (blk_cell h 1).trans rfl, (blk_cell h 2).trans rfl, (blk_cell h 3).trans rfl, (blk_cell h 4).trans rfl, (blk_cell h 5).trans rfl, (blk_cell h 6).trans rfl, p⟩
theorem fz7 {w : World} {g t : Nat} {cs : Array Value} (h : w.heap[g]? = some (.cells cs t (0, 0))) : w.frozen? ⟨g, 0, none⟩ = false ∧ w.frozen? ⟨g, 1, none⟩ = false ∧ w.frozen? ⟨g, 2, none⟩ = false ∧ w.frozen? ⟨g, 3, none⟩ = false ∧ w.frozen? ⟨g, 4, none⟩ = false ∧ w.frozen? ⟨g, 5, none⟩ = false ∧ w.frozen? ⟨g, 6, none⟩ = false := ⟨blk_frozen h 0, blk_frozen h 1, blk_frozen h 2, blk_frozen h 3, blk_frozen h 4, blk_frozen h 5, blk_frozen h 6⟩
end Go.Proofs.YtopmacbjbjaekaaW.PrintMore
