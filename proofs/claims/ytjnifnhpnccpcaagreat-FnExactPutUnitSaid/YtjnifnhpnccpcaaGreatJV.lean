/- Short words for steps of a walk that leave what is owned as it was: nothing is assumed. -/
import Derived.Maps.RangeWalk
import Derived.Test.YtjnifnhpnccpcaaGreatJWMore
namespace Go.Proofs.YtjnifnhpnccpcaaGreatW.PrintMore
open Go.RowKit Go.Proofs.YtjnifnhpnccpcaaGreatW.PrintWords Go.Proofs.YtjnifnhpnccpcaaGreatW.PrintLast
set_option linter.unusedVariables false
section
variable {α : Type} {d : Kd α} {e : Nat} {w W W2 : World} {base : Nat} {ok : Nat → Prop} {v : Value} {xs : List α}
theorem oR (h : d.R e w base ok v xs) (s : Below w.heap.size w W:=by repeat (with_reducible first | exact Below.refl _ _ | apply below_alloc | apply pw_below_drewN | apply below_drew1)) : d.R e W base ok v xs:=Kd.R_below h s
theorem oC {A : Option Addr} {n : Nat} (h : d.C w A n xs) (s : Below w.heap.size w W:=by repeat (first | (with_reducible first | exact Aside0.out (by assumption) | exact Below.refl _ _ | apply below_alloc | apply pw_below_drewN | apply below_drew1 | refine below_set ?_ (Aside0.out (by assumption))))) : d.C W A n xs:=Kd.C_below h s
theorem oD {A : Option Addr} {n : Nat} (h : d.C w A n xs) (s : Below w.heap.size w W:=by repeat (with_reducible first | exact Below.refl _ _ | apply below_alloc | apply pw_below_drewN | apply below_drew1)) : d.C W A n xs:=Kd.C_below h s
theorem oB {g : Nat} {o : Obj} (h : w.heap[g]? = some o) (s : Below w.heap.size w W:=by repeat (with_reducible first | exact Below.refl _ _ | apply below_alloc | apply pw_below_drewN | apply below_drew1)) : W.heap[g]? = some o:=blk_below h s
theorem oL (s : Below w.heap.size w W:=by repeat (first | (with_reducible first | exact Aside0.out (by assumption) | apply below_alloc | apply pw_below_drewN | apply below_drew1 | refine below_set ?_ (Aside0.out (by assumption))) | exact Aside0.out (by assumption))) : Below w.heap.size w W:=s
theorem oS {g : Nat} (hg : g = W.heap.size) (s : Below w.heap.size w W) : w.heap.size ≤ g:=by rw [hg];exact below_size s
theorem oN {g g' : Nat} {o : Obj} (hg : g' = W.heap.size) (h : W.heap[g]? = some o) : g ≠ g':=by rw [hg];exact Nat.ne_of_lt (blk_lt h)
theorem oM {g g' : Nat} {o : Obj} (hg : g' = W.heap.size) (h : W.heap[g]? = some o) : g' ≠ g:=by rw [hg];exact Nat.ne_of_gt (blk_lt h)
theorem keep_refl (w : World) (g : Nat) : KeepBut w w g none:=KeepBut.refl w g none
theorem keep_put {g j : Nat} {u : Value} (h : KeepBut w W g none) : KeepBut w (W.setCell ⟨g,j,none⟩ u) g none:=h.set_ j u
theorem oF {g t : Nat} {cells : Array Value} (h : d.R e w base ok v xs) (hb : w.heap[g]? = some (.cells cells t (0,0))) (ht : ∀ q,q ∈ e :: d.E → q ≠ t:=by decide)
    (s : KeepBut w W g none:=by repeat (with_reducible first | exact keep_refl _ _ | apply keep_put | apply keep_alloc | apply keep_drewN | apply keep_drew)) : d.R e W base ok v xs :=
  Kd.R_mono (Kd.R_keep (Kd.R_types h hb ht) s (fun _ hk => hk.2)) (fun _ h_ => h_.1)
abbrev nb {β : Type} (A : Option Addr) (t : List β) (c : Nat) (k : Nat) : Prop:=some k ≠ (.slice A t.length c : Value).ownBlock
def Keep2 (w W : World) (g g' : Nat) : Prop:=w.heap.size ≤ W.heap.size ∧ ∀ k,k < w.heap.size → k ≠ g → k ≠ g' → W.heap[k]? = w.heap[k]?
theorem keep2_refl (w : World) (g g' : Nat) : Keep2 w w g g':=⟨Nat.le_refl _,fun _ _ _ _ => rfl⟩
theorem keep2_below {W2 : World} {g g' : Nat} (h : Keep2 w W g g') (hb : Below W.heap.size W W2) : Keep2 w W2 g g':=⟨Nat.le_trans h.1 hb.size,fun k hk h1 h2 => (hb.block k (Nat.lt_of_lt_of_le hk h.1)).trans (h.2 k hk h1 h2)⟩
theorem keep2_alloc {g g' : Nat} (h : Keep2 w W g g') (o : Obj) : Keep2 w (W.alloc o) g g':=keep2_below h (below_alloc (Below.refl _ _) o)
theorem keep2_drewN {g g' : Nat} (h : Keep2 w W g g') (n : Nat) : Keep2 w (W.drewN n) g g':=h
theorem keep2_drew {g g' : Nat} (h : Keep2 w W g g') : Keep2 w W.drew g g':=h
theorem keep2_put1 {g g' j : Nat} {u : Value} (h : Keep2 w W g g') : Keep2 w (W.setCell ⟨g,j,none⟩ u) g g':=⟨by simpa [World.setCell] using h.1,fun k hk h1 h2 => (Below.heap_setCell W ⟨g,j,none⟩ u k h1).trans (h.2 k hk h1 h2)⟩
theorem keep2_put2 {g g' j : Nat} {u : Value} (h : Keep2 w W g g') : Keep2 w (W.setCell ⟨g',j,none⟩ u) g g':=⟨by simpa [World.setCell] using h.1,fun k hk h1 h2 => (Below.heap_setCell W ⟨g',j,none⟩ u k h2).trans (h.2 k hk h1 h2)⟩
theorem oEr {g g' t t' : Nat} {cells cells' : Array Value} (h : d.R e w base ok v xs) (hb : w.heap[g]? = some (.cells cells t (0,0))) (hb' : w.heap[g']? = some (.cells cells' t' (0,0))) (ht : ∀ q,q ∈ e :: d.E → q ≠ t:=by decide) (ht' : ∀ q,q ∈ e :: d.E → q ≠ t':=by decide)
    (s : Keep2 w W g g':=by repeat (with_reducible first | exact keep2_refl _ _ _ | apply keep2_put1 | apply keep2_put2 | apply keep2_alloc | apply keep2_drewN | apply keep2_drew)) : d.R e W base (fun k => (ok k ∧ k ≠ g) ∧ k ≠ g') v xs :=
  Kd.R_step (Kd.R_types (Kd.R_types h hb ht) hb' ht') (fun k ho hlt => s.2 k hlt ho.1.2 ho.2)
theorem oFr {g t : Nat} {cells : Array Value} (h : d.R e w base ok v xs) (hb : w.heap[g]? = some (.cells cells t (0,0))) (ht : ∀ q,q ∈ e :: d.E → q ≠ t:=by decide)
    (s : KeepBut w W g none:=by repeat (with_reducible first | exact keep_refl _ _ | apply keep_put | apply keep_alloc | apply keep_drewN | apply keep_drew)) : d.R e W base (fun k => ok k ∧ k ≠ g) v xs :=
  Kd.R_keep (Kd.R_types h hb ht) s (fun _ hk => hk.2)
theorem oG {g t : Nat} {cells : Array Value} {g' : Nat} (h : w.heap[g]? = some (.cells cells t (0,0))) (hne : g ≠ g')
    (s : KeepBut w W g' none:=by repeat (with_reducible first | exact keep_refl _ _ | apply keep_put | apply keep_alloc | apply keep_drewN | apply keep_drew)) : W.heap[g]? = some (.cells cells t (0,0)) :=
  s.blk h hne (by simp)
def Puts (g : Nat) (cs : Array Value) (w W : World) (cs' : Array Value) : Prop:=∀ t,w.heap[g]? = some (.cells cs t (0,0)) → W.heap[g]? = some (.cells cs' t (0,0))
theorem puts_refl {g : Nat} {cs : Array Value} : Puts g cs w w cs:=fun _ h => h
theorem puts_alloc {g : Nat} {cs cs' : Array Value} (h : Puts g cs w W cs') (o : Obj) : Puts g cs w (W.alloc o) cs':=fun t k => blk_alloc (h t k) o
theorem puts_drewN {g : Nat} {cs cs' : Array Value} (h : Puts g cs w W cs') (n : Nat) : Puts g cs w (W.drewN n) cs':=fun t k => blk_drewN (h t k) n
theorem puts_drew {g : Nat} {cs cs' : Array Value} (h : Puts g cs w W cs') : Puts g cs w W.drew cs':=fun t k => blk_drew (h t k)
theorem puts_set {g j : Nat} {u : Value} {cs cs' : Array Value} (h : Puts g cs w W cs') : Puts g cs w (W.setCell ⟨g,j,none⟩ u) (cs'.setIfInBounds j u):=fun t k => blk_set (h t k) j u
theorem puts_far {g g' j : Nat} {u : Value} {cs cs' : Array Value} (h : Puts g cs w W cs') (hne : g ≠ g') : Puts g cs w (W.setCell ⟨g',j,none⟩ u) cs':=fun t k => blk_far (h t k) hne u
theorem oK {g i g' : Nat} {x : Value} (h : w.cell? ⟨g,i,none⟩ = some x) (hne : g ≠ g') (s : KeepBut w W g' none:=by repeat (with_reducible first | exact keep_refl _ _ | apply keep_put | apply keep_alloc | apply keep_drewN | apply keep_drew)) : W.cell? ⟨g,i,none⟩ = some x:=keep_cell s h hne
theorem oP {g t : Nat} {cs cs' cs2 : Array Value} (h : w.heap[g]? = some (.cells cs t (0,0)))
    (s : Puts g cs w W cs':=by repeat (with_reducible first | exact puts_refl | apply puts_set | (apply puts_far;case hne => exact Aside0.out (by assumption)) | apply puts_alloc | apply puts_drewN | apply puts_drew)) (q : cs' = cs2:=by first | (simp only [List.setIfInBounds_toArray,List.set_cons_zero,List.set_cons_succ];done) | rfl) : W.heap[g]? = some (.cells cs2 t (0,0)):=q ▸ s t h
end
theorem bE {α β : Type} {o : Option α} {f : α → Option β} {r : β} (h : o.bind f = some r) : ∃ t,o = some t ∧ f t = some r:=Option.bind_eq_some_iff.mp h
theorem iT {α : Type} {a b : α} {r : α} (h : (if true = true then a else b) = r) : a = r:=by rw [if_pos rfl] at h;exact h
theorem iF {α : Type} {a b : α} {r : α} (h : (if false = true then a else b) = r) : b = r:=by rw [if_neg (by decide)] at h;exact h
theorem eT {x y : Int} (h : x = y) : (x == y) = true ∧ (x != y) = false:=⟨beq_iff_eq.mpr h,bne_eq_false_iff_eq.mpr h⟩
theorem eF {x y : Int} (h : ¬ x = y) : (x == y) = false ∧ (x != y) = true:=⟨beq_eq_false_iff_ne.mpr h,bne_iff_ne.mpr h⟩
theorem oE {α : Type} {a b : α} (h : a = b:=by first | rfl | (simp <;> rfl) | (simp [*] <;> rfl)) : a = b:=h
section
variable {P : Program} {ops : Array Oper} {rest : List Oper} {o : Oper} {a : Act} {Q : Exit → Act → World → Prop}
theorem boxE {w W : World} (hB : Below w.heap.size w W) {cs : Array Value} {t : TypeId}
    (h : ∀ g w1,Aside0 (Below w.heap.size w w1) → Aside0 (w1.heap[g]? = some (.cells cs t (0,0))) → Aside0 (w.heap.size ≤ g) → wpList P ops Q rest (a.put o.dst (.pointer (some ⟨g,0,none⟩))) w1)
    (hgd : o.guard = none:=by rfl) (hrun : (execOp a.eval o).run P W = .ok (.value (.pointer (some ⟨W.heap.size,0,none⟩))) (W.alloc (.cells cs t (0,0))):=by first | (go_simp;done) | (go_simp;rfl)) : wpList P ops Q (o :: rest) a W :=
  Kd.event_run hgd hrun (h _ _ ⟨below_step hB (below_alloc (Below.refl _ _) _)⟩ ⟨blk_new W _⟩ ⟨below_size hB⟩)
theorem goesS {w : World} {N : Option Tmp} {K : Act → World → Prop} {f : FuncId} {fn : Func} (hf : P.funcs[f]? = some fn) (args : Array Value) {as : Array Operand} {ts : Array TypeId}
    (h : Calls P f args w fun e w' => ∃ v,e = .returned v ∧ K (a.put N v) w')
    (hname : (fn.name == "runtime.NumGoroutine") = false:=by kernel_rfl) (hb : fn.body.isSome = true:=by rfl) (hw : Region.wanted o (yielded ops a.tmps) = true:=by rfl) (hN : o.dst = N:=by rfl)
    (hop : o.op = .call { callee:=.value (.func f),args:=as,argTypes:=ts }:=by rfl)
    (hargs : as.map a.eval = args:=by (try simp only [List.map_toArray,List.map_cons,List.map_nil]);first | done | rfl | (simp only [List.length_drop,List.length_take];rfl)) : if Region.wanted o (yielded ops a.tmps) = true then Oper.wp P o a w K Q else K (a.put N undef) w :=
  goes_ hf hname hb args hw hN hop hargs h
theorem goesQ {w : World} (N : Option Tmp) {f : FuncId} {fn : Func} (hf : P.funcs[f]? = some fn) (args : Array Value) {v : Value} {as : Array Operand} {ts : Array TypeId}
    (hc : Calls P f args w fun e w' => e = .returned v ∧ Drawn0 w w') (h : ∀ nd,wpList P ops Q rest (a.put N v) (w.drewN nd))
    (hd : o.dst = N:=by rfl) (hg : o.guard = none:=by rfl) (hname : (fn.name == "runtime.NumGoroutine") = false:=by kernel_rfl) (hb : fn.body.isSome = true:=by rfl)
    (hop : o.op = .call { callee:=.value (.func f),args:=as,argTypes:=ts }:=by rfl)
    (hargs : as.map a.eval = args:=by (try simp only [List.map_toArray,List.map_cons,List.map_nil]);first | done | rfl | (simp only [List.length_drop,List.length_take];rfl)) : wpList P ops Q (o :: rest) a w :=
  goesL_ N hd hg hf hname hb args hop hargs (hc.mono fun e w' hh => by obtain ⟨rfl,⟨nd,rfl⟩⟩:=hh;exact ⟨_,rfl,h nd⟩)
end
theorem cz3 {w : World} {g t : Nat} {v0 v1 v2 : Value} (h : w.heap[g]? = some (.cells #[v0,v1,v2] t (0,0))) : w.cell? ⟨g,0,none⟩ = some v0 ∧ w.cell? ⟨g,1,none⟩ = some v1 ∧ w.cell? ⟨g,2,none⟩ = some v2:=⟨(blk_cell h 0).trans rfl,(blk_cell h 1).trans rfl,(blk_cell h 2).trans rfl⟩
theorem czc3 {w : World} {g t : Nat} {v0 v1 v2 : Value} (h : w.heap[g]? = some (.cells #[v0,v1,v2] t (0,0))) {P : Prop} (p : P) : w.cell? ⟨g,0,none⟩ = some v0 ∧ w.cell? ⟨g,1,none⟩ = some v1 ∧ w.cell? ⟨g,2,none⟩ = some v2 ∧ P:=⟨(blk_cell h 0).trans rfl,(blk_cell h 1).trans rfl,(blk_cell h 2).trans rfl,p⟩
theorem fz3 {w : World} {g t : Nat} {cs : Array Value} (h : w.heap[g]? = some (.cells cs t (0,0))) : w.frozen? ⟨g,0,none⟩ = false ∧ w.frozen? ⟨g,1,none⟩ = false ∧ w.frozen? ⟨g,2,none⟩ = false:=⟨blk_frozen h 0,blk_frozen h 1,blk_frozen h 2⟩
theorem cz4 {w : World} {g t : Nat} {v0 v1 v2 v3 : Value} (h : w.heap[g]? = some (.cells #[v0,v1,v2,v3] t (0,0))) : w.cell? ⟨g,0,none⟩ = some v0 ∧ w.cell? ⟨g,1,none⟩ = some v1 ∧ w.cell? ⟨g,2,none⟩ = some v2 ∧ w.cell? ⟨g,3,none⟩ = some v3:=⟨(blk_cell h 0).trans rfl,(blk_cell h 1).trans rfl,(blk_cell h 2).trans rfl,(blk_cell h 3).trans rfl⟩
theorem czc4 {w : World} {g t : Nat} {v0 v1 v2 v3 : Value} (h : w.heap[g]? = some (.cells #[v0,v1,v2,v3] t (0,0))) {P : Prop} (p : P) : w.cell? ⟨g,0,none⟩ = some v0 ∧ w.cell? ⟨g,1,none⟩ = some v1 ∧ w.cell? ⟨g,2,none⟩ = some v2 ∧ w.cell? ⟨g,3,none⟩ = some v3 ∧ P:=⟨(blk_cell h 0).trans rfl,(blk_cell h 1).trans rfl,(blk_cell h 2).trans rfl,(blk_cell h 3).trans rfl,p⟩
theorem fz4 {w : World} {g t : Nat} {cs : Array Value} (h : w.heap[g]? = some (.cells cs t (0,0))) : w.frozen? ⟨g,0,none⟩ = false ∧ w.frozen? ⟨g,1,none⟩ = false ∧ w.frozen? ⟨g,2,none⟩ = false ∧ w.frozen? ⟨g,3,none⟩ = false:=⟨blk_frozen h 0,blk_frozen h 1,blk_frozen h 2,blk_frozen h 3⟩
theorem cz7 {w : World} {g t : Nat} {v0 v1 v2 v3 v4 v5 v6 : Value} (h : w.heap[g]? = some (.cells #[v0,v1,v2,v3,v4,v5,v6] t (0,0))) : w.cell? ⟨g,0,none⟩ = some v0 ∧ w.cell? ⟨g,1,none⟩ = some v1 ∧ w.cell? ⟨g,2,none⟩ = some v2 ∧ w.cell? ⟨g,3,none⟩ = some v3 ∧ w.cell? ⟨g,4,none⟩ = some v4 ∧ w.cell? ⟨g,5,none⟩ = some v5 ∧ w.cell? ⟨g,6,none⟩ = some v6:=⟨(blk_cell h 0).trans rfl,(blk_cell h 1).trans rfl,(blk_cell h 2).trans rfl,(blk_cell h 3).trans rfl,(blk_cell h 4).trans rfl,(blk_cell h 5).trans rfl,(blk_cell h 6).trans rfl⟩
theorem fz7 {w : World} {g t : Nat} {cs : Array Value} (h : w.heap[g]? = some (.cells cs t (0,0))) : w.frozen? ⟨g,0,none⟩ = false ∧ w.frozen? ⟨g,1,none⟩ = false ∧ w.frozen? ⟨g,2,none⟩ = false ∧ w.frozen? ⟨g,3,none⟩ = false ∧ w.frozen? ⟨g,4,none⟩ = false ∧ w.frozen? ⟨g,5,none⟩ = false ∧ w.frozen? ⟨g,6,none⟩ = false:=⟨blk_frozen h 0,blk_frozen h 1,blk_frozen h 2,blk_frozen h 3,blk_frozen h 4,blk_frozen h 5,blk_frozen h 6⟩
theorem cz9 {w : World} {g t : Nat} {v0 v1 v2 v3 v4 v5 v6 v7 v8 : Value} (h : w.heap[g]? = some (.cells #[v0,v1,v2,v3,v4,v5,v6,v7,v8] t (0,0))) : w.cell? ⟨g,0,none⟩ = some v0 ∧ w.cell? ⟨g,1,none⟩ = some v1 ∧ w.cell? ⟨g,2,none⟩ = some v2 ∧ w.cell? ⟨g,3,none⟩ = some v3 ∧ w.cell? ⟨g,4,none⟩ = some v4 ∧ w.cell? ⟨g,5,none⟩ = some v5 ∧ w.cell? ⟨g,6,none⟩ = some v6 ∧ w.cell? ⟨g,7,none⟩ = some v7 ∧ w.cell? ⟨g,8,none⟩ = some v8:=⟨(blk_cell h 0).trans rfl,(blk_cell h 1).trans rfl,(blk_cell h 2).trans rfl,(blk_cell h 3).trans rfl,(blk_cell h 4).trans rfl,(blk_cell h 5).trans rfl,(blk_cell h 6).trans rfl,(blk_cell h 7).trans rfl,(blk_cell h 8).trans rfl⟩
theorem fz9 {w : World} {g t : Nat} {cs : Array Value} (h : w.heap[g]? = some (.cells cs t (0,0))) : w.frozen? ⟨g,0,none⟩ = false ∧ w.frozen? ⟨g,1,none⟩ = false ∧ w.frozen? ⟨g,2,none⟩ = false ∧ w.frozen? ⟨g,3,none⟩ = false ∧ w.frozen? ⟨g,4,none⟩ = false ∧ w.frozen? ⟨g,5,none⟩ = false ∧ w.frozen? ⟨g,6,none⟩ = false ∧ w.frozen? ⟨g,7,none⟩ = false ∧ w.frozen? ⟨g,8,none⟩ = false:=⟨blk_frozen h 0,blk_frozen h 1,blk_frozen h 2,blk_frozen h 3,blk_frozen h 4,blk_frozen h 5,blk_frozen h 6,blk_frozen h 7,blk_frozen h 8⟩
theorem aS {p : Prop} (h : p) : Aside0 p:=⟨h⟩
theorem oJ {w W : World} {a : Addr} {v : Value} (HB : Aside0 (Below w.heap.size w W)) (h : w.cell? a = some v) : W.cell? a = some v:=(HB.out.cell (World.block_lt_of_cell? w _ h)).trans h
abbrev Y : Bool:=true
abbrev F : Bool:=false
theorem zz3 {P : Prop} {w : World} {g t : Nat} {v0 v1 v2 : Value} (h : w.heap[g]? = some (.cells #[v0,v1,v2] t (0,0))) (k : w.cell? ⟨g,0,none⟩ = some v0 → w.cell? ⟨g,1,none⟩ = some v1 → w.cell? ⟨g,2,none⟩ = some v2 → w.frozen? ⟨g,0,none⟩ = false → w.frozen? ⟨g,1,none⟩ = false → w.frozen? ⟨g,2,none⟩ = false → P) : P:=by
  obtain ⟨a0,a1,a2⟩:=cz3 h;obtain ⟨b0,b1,b2⟩:=fz3 h;exact k a0 a1 a2 b0 b1 b2
theorem zz4 {P : Prop} {w : World} {g t : Nat} {v0 v1 v2 v3 : Value} (h : w.heap[g]? = some (.cells #[v0,v1,v2,v3] t (0,0))) (k : w.cell? ⟨g,0,none⟩ = some v0 → w.cell? ⟨g,1,none⟩ = some v1 → w.cell? ⟨g,2,none⟩ = some v2 → w.cell? ⟨g,3,none⟩ = some v3 → w.frozen? ⟨g,0,none⟩ = false → w.frozen? ⟨g,1,none⟩ = false → w.frozen? ⟨g,2,none⟩ = false → w.frozen? ⟨g,3,none⟩ = false → P) : P:=by
  obtain ⟨a0,a1,a2,a3⟩:=cz4 h;obtain ⟨b0,b1,b2,b3⟩:=fz4 h;exact k a0 a1 a2 a3 b0 b1 b2 b3
theorem zz7 {P : Prop} {w : World} {g t : Nat} {v0 v1 v2 v3 v4 v5 v6 : Value} (h : w.heap[g]? = some (.cells #[v0,v1,v2,v3,v4,v5,v6] t (0,0))) (k : w.cell? ⟨g,0,none⟩ = some v0 → w.cell? ⟨g,1,none⟩ = some v1 → w.cell? ⟨g,2,none⟩ = some v2 → w.cell? ⟨g,3,none⟩ = some v3 → w.cell? ⟨g,4,none⟩ = some v4 → w.cell? ⟨g,5,none⟩ = some v5 → w.cell? ⟨g,6,none⟩ = some v6 → w.frozen? ⟨g,0,none⟩ = false → w.frozen? ⟨g,1,none⟩ = false → w.frozen? ⟨g,2,none⟩ = false → w.frozen? ⟨g,3,none⟩ = false → w.frozen? ⟨g,4,none⟩ = false → w.frozen? ⟨g,5,none⟩ = false → w.frozen? ⟨g,6,none⟩ = false → P) : P:=by
  obtain ⟨a0,a1,a2,a3,a4,a5,a6⟩:=cz7 h;obtain ⟨b0,b1,b2,b3,b4,b5,b6⟩:=fz7 h;exact k a0 a1 a2 a3 a4 a5 a6 b0 b1 b2 b3 b4 b5 b6
theorem zz9 {P : Prop} {w : World} {g t : Nat} {v0 v1 v2 v3 v4 v5 v6 v7 v8 : Value} (h : w.heap[g]? = some (.cells #[v0,v1,v2,v3,v4,v5,v6,v7,v8] t (0,0))) (k : w.cell? ⟨g,0,none⟩ = some v0 → w.cell? ⟨g,1,none⟩ = some v1 → w.cell? ⟨g,2,none⟩ = some v2 → w.cell? ⟨g,3,none⟩ = some v3 → w.cell? ⟨g,4,none⟩ = some v4 → w.cell? ⟨g,5,none⟩ = some v5 → w.cell? ⟨g,6,none⟩ = some v6 → w.cell? ⟨g,7,none⟩ = some v7 → w.cell? ⟨g,8,none⟩ = some v8 → w.frozen? ⟨g,0,none⟩ = false → w.frozen? ⟨g,1,none⟩ = false → w.frozen? ⟨g,2,none⟩ = false → w.frozen? ⟨g,3,none⟩ = false → w.frozen? ⟨g,4,none⟩ = false → w.frozen? ⟨g,5,none⟩ = false → w.frozen? ⟨g,6,none⟩ = false → w.frozen? ⟨g,7,none⟩ = false → w.frozen? ⟨g,8,none⟩ = false → P) : P:=by
  obtain ⟨a0,a1,a2,a3,a4,a5,a6,a7,a8⟩:=cz9 h;obtain ⟨b0,b1,b2,b3,b4,b5,b6,b7,b8⟩:=fz9 h;exact k a0 a1 a2 a3 a4 a5 a6 a7 a8 b0 b1 b2 b3 b4 b5 b6 b7 b8
theorem mk1 {p0 P : Prop} (h0 : p0) (k : Aside0 p0 → P) : P:=k ⟨h0⟩
theorem mk2 {p0 p1 P : Prop} (h0 : p0) (h1 : p1) (k : Aside0 p0 → Aside0 p1 → P) : P:=k ⟨h0⟩ ⟨h1⟩
theorem mk3 {p0 p1 p2 P : Prop} (h0 : p0) (h1 : p1) (h2 : p2) (k : Aside0 p0 → Aside0 p1 → Aside0 p2 → P) : P:=k ⟨h0⟩ ⟨h1⟩ ⟨h2⟩
theorem mk4 {p0 p1 p2 p3 P : Prop} (h0 : p0) (h1 : p1) (h2 : p2) (h3 : p3) (k : Aside0 p0 → Aside0 p1 → Aside0 p2 → Aside0 p3 → P) : P:=k ⟨h0⟩ ⟨h1⟩ ⟨h2⟩ ⟨h3⟩
theorem mk5 {p0 p1 p2 p3 p4 P : Prop} (h0 : p0) (h1 : p1) (h2 : p2) (h3 : p3) (h4 : p4) (k : Aside0 p0 → Aside0 p1 → Aside0 p2 → Aside0 p3 → Aside0 p4 → P) : P:=k ⟨h0⟩ ⟨h1⟩ ⟨h2⟩ ⟨h3⟩ ⟨h4⟩
theorem mk6 {p0 p1 p2 p3 p4 p5 P : Prop} (h0 : p0) (h1 : p1) (h2 : p2) (h3 : p3) (h4 : p4) (h5 : p5) (k : Aside0 p0 → Aside0 p1 → Aside0 p2 → Aside0 p3 → Aside0 p4 → Aside0 p5 → P) : P:=k ⟨h0⟩ ⟨h1⟩ ⟨h2⟩ ⟨h3⟩ ⟨h4⟩ ⟨h5⟩
theorem mk7 {p0 p1 p2 p3 p4 p5 p6 P : Prop} (h0 : p0) (h1 : p1) (h2 : p2) (h3 : p3) (h4 : p4) (h5 : p5) (h6 : p6) (k : Aside0 p0 → Aside0 p1 → Aside0 p2 → Aside0 p3 → Aside0 p4 → Aside0 p5 → Aside0 p6 → P) : P:=k ⟨h0⟩ ⟨h1⟩ ⟨h2⟩ ⟨h3⟩ ⟨h4⟩ ⟨h5⟩ ⟨h6⟩
theorem mk8 {p0 p1 p2 p3 p4 p5 p6 p7 P : Prop} (h0 : p0) (h1 : p1) (h2 : p2) (h3 : p3) (h4 : p4) (h5 : p5) (h6 : p6) (h7 : p7) (k : Aside0 p0 → Aside0 p1 → Aside0 p2 → Aside0 p3 → Aside0 p4 → Aside0 p5 → Aside0 p6 → Aside0 p7 → P) : P:=k ⟨h0⟩ ⟨h1⟩ ⟨h2⟩ ⟨h3⟩ ⟨h4⟩ ⟨h5⟩ ⟨h6⟩ ⟨h7⟩
theorem mk9 {p0 p1 p2 p3 p4 p5 p6 p7 p8 P : Prop} (h0 : p0) (h1 : p1) (h2 : p2) (h3 : p3) (h4 : p4) (h5 : p5) (h6 : p6) (h7 : p7) (h8 : p8) (k : Aside0 p0 → Aside0 p1 → Aside0 p2 → Aside0 p3 → Aside0 p4 → Aside0 p5 → Aside0 p6 → Aside0 p7 → Aside0 p8 → P) : P:=k ⟨h0⟩ ⟨h1⟩ ⟨h2⟩ ⟨h3⟩ ⟨h4⟩ ⟨h5⟩ ⟨h6⟩ ⟨h7⟩ ⟨h8⟩
theorem mk10 {p0 p1 p2 p3 p4 p5 p6 p7 p8 p9 P : Prop} (h0 : p0) (h1 : p1) (h2 : p2) (h3 : p3) (h4 : p4) (h5 : p5) (h6 : p6) (h7 : p7) (h8 : p8) (h9 : p9) (k : Aside0 p0 → Aside0 p1 → Aside0 p2 → Aside0 p3 → Aside0 p4 → Aside0 p5 → Aside0 p6 → Aside0 p7 → Aside0 p8 → Aside0 p9 → P) : P:=k ⟨h0⟩ ⟨h1⟩ ⟨h2⟩ ⟨h3⟩ ⟨h4⟩ ⟨h5⟩ ⟨h6⟩ ⟨h7⟩ ⟨h8⟩ ⟨h9⟩
theorem mk14 {p0 p1 p2 p3 p4 p5 p6 p7 p8 p9 p10 p11 p12 p13 P : Prop} (h0 : p0) (h1 : p1) (h2 : p2) (h3 : p3) (h4 : p4) (h5 : p5) (h6 : p6) (h7 : p7) (h8 : p8) (h9 : p9) (h10 : p10) (h11 : p11) (h12 : p12) (h13 : p13) (k : Aside0 p0 → Aside0 p1 → Aside0 p2 → Aside0 p3 → Aside0 p4 → Aside0 p5 → Aside0 p6 → Aside0 p7 → Aside0 p8 → Aside0 p9 → Aside0 p10 → Aside0 p11 → Aside0 p12 → Aside0 p13 → P) : P:=k ⟨h0⟩ ⟨h1⟩ ⟨h2⟩ ⟨h3⟩ ⟨h4⟩ ⟨h5⟩ ⟨h6⟩ ⟨h7⟩ ⟨h8⟩ ⟨h9⟩ ⟨h10⟩ ⟨h11⟩ ⟨h12⟩ ⟨h13⟩
def bA (n m : Nat) : Array Bool:=((List.range n).map m.testBit).toArray
section
variable {P : Program} {ops : Array Oper} {Q : Exit → Act → World → Prop} {md : Region.Mode} {S : World → Prop} {ds : List Nat}
theorem pB (i : Nat) (N : Tmp) {v : Value} {oi : Oper} {fuel n m : Nat} {a : Act} {w : World} (m' : Nat) {a' : Act} (h : wpAnyLast P md ops Q S ds fuel (bA n m') a' w) (hi : ops[i]? = some oi:=by rfl) (hN : oi.dst = some N:=by rfl) (hc : anyB md ops (bA n m) (bA n m') i = true:=by first | exact any_of HT_.out (by kernel_rfl) | kernel_rfl)
    (hQ : ∀ c a w,Q (.panic c) (a.put oi.dst v) w → Q (.panic c) a w:=by exact fun _ _ _ h => h) (hy : Yields P ops oi v a:=by refine Or.inl ⟨by rfl,?_⟩;intro w';go_simp;with_reducible rfl) (ha : a.put (some N) v = a':=by go_frame;(try simp only [i64_w,i32_w]);rfl) : wpAnyLast P md ops Q S ds (fuel + 1) (bA n m) a w:=pure_ _ hi hN hc hQ hy ha h
theorem uB (i : Nat) (N : Tmp) {oi : Oper} {fuel n m : Nat} {a : Act} {w : World} (m' : Nat) {a' : Act} (h : wpAnyLast P md ops Q S ds fuel (bA n m') a' w) (hi : ops[i]? = some oi:=by rfl) (hN : oi.dst = some N:=by rfl) (hc : anyB md ops (bA n m) (bA n m') i = true:=by first | exact any_of HT_.out (by kernel_rfl) | kernel_rfl)
    (hQ : ∀ c a w,Q (.panic c) (a.put oi.dst undef) w → Q (.panic c) a w:=by exact fun _ _ _ h => h) (hy : Yields P ops oi undef a:=by exact Or.inr ⟨by rfl,rfl⟩) (ha : a.put (some N) undef = a':=by go_frame;(try simp only [i64_w,i32_w]);rfl) : wpAnyLast P md ops Q S ds (fuel + 1) (bA n m) a w:=pure_ _ hi hN hc hQ hy ha h
theorem tB (i : Nat) (N : Tmp) {v : Value} {oi : Oper} {fuel n m : Nat} {a : Act} {w : World} (m' : Nat) {a' : Act} (h : wpAnyLast P md ops Q S ds fuel (bA n m') a' w) (hi : ops[i]? = some oi:=by rfl) (hN : oi.dst = some N:=by rfl) (hc : takeB md ops ds (bA n m) (bA n m') i = true:=by first | exact take_ofW HT_.out HW_.out (by kernel_rfl) | kernel_rfl)
    (hQ : ∀ c a w,Q (.panic c) (a.put oi.dst v) w → Q (.panic c) a w:=by exact fun _ _ _ h => h) (hy : YieldsIf P ops S oi v a:=by refine Or.inl ⟨by rfl,?_⟩;intro w' hS_;(repeat (obtain ⟨_,hS_⟩:=hS_));go_simp;with_reducible rfl) (hS : S w:=by exact hHeld) (ha : a.put (some N) v = a':=by go_frame;(try simp only [i64_w,i32_w]);rfl) : wpAnyLast P md ops Q S ds (fuel + 1) (bA n m) a w:=take_ _ hi hN hc hQ hy hS ha h
theorem oneB (i N : Nat) {oi : Oper} {fuel n m : Nat} {a : Act} {w : World} (m' : Nat)
    (h : ∀ K : Act → World → Prop,Shut (∀ a' w',S w' → (S w' → wpAnyLast P md ops Q S ds fuel (bA n m') a' w') → K a' w') → if Region.wanted oi (yielded ops a.tmps) = true then Oper.wp P oi a w K Q else K (a.put (some N) undef) w) (hi : ops[i]? = some oi:=by rfl) (hN : oi.dst = some N:=by rfl) (hc : readyB md ops (bA n m) (bA n m') i = true:=by first | exact one_of HT_.out (by kernel_rfl) | kernel_rfl) (hd : i ∉ ds:=by decide) :
    wpAnyLast P md ops Q S ds (fuel + 1) (bA n m) a w:=one_ _ hi hN hc hd h
end
section
variable {P : Program} {ops : Array Oper} {rest : List Oper} {o : Oper} {a : Act} {Q : Exit → Act → World → Prop}
theorem gD {W : World} (N : Tmp) (_h : o.dst = some N) (h : wpList P ops Q (o :: rest) a W) : wpList P ops Q (o :: rest) a W:=h
theorem gS {W : World} (t : TypeId) (p : Tmp) {v : Operand} (_h : o.op = .store t (.tmp p) v) (h : wpList P ops Q (o :: rest) a W) : wpList P ops Q (o :: rest) a W:=h
theorem gC {W : World} (f : FuncId) {as : Array Operand} {ts : Array TypeId} (_h : o.op = .call { callee:=.value (.func f),args:=as,argTypes:=ts }) (h : wpList P ops Q (o :: rest) a W) : wpList P ops Q (o :: rest) a W:=h
theorem bX {w W : World} (cs : Array Value) (t : TypeId)
    (h : ∀ g w1,Aside0 (Below w.heap.size w w1) → Aside0 (w1.heap[g]? = some (.cells cs t (0,0))) → Aside0 (w.heap.size ≤ g) → wpList P ops Q rest (a.put o.dst (.pointer (some ⟨g,0,none⟩))) w1)
    (hB : Below w.heap.size w W:=by exact oL) (hgd : o.guard = none:=by rfl) (hrun : (execOp a.eval o).run P W = .ok (.value (.pointer (some ⟨W.heap.size,0,none⟩))) (W.alloc (.cells cs t (0,0))):=by first | (go_simp;done) | (go_simp;rfl)) : wpList P ops Q (o :: rest) a W:=boxE hB h hgd hrun
theorem bY {W : World} (cs : Array Value) (t : TypeId)
    (h : ∀ g,g = W.heap.size → ∀ w1,w1.heap[g]? = some (.cells cs t (0,0)) → Below W.heap.size W w1 → wpList P ops Q rest (a.put o.dst (.pointer (some ⟨g,0,none⟩))) w1)
    (hgd : o.guard = none:=by rfl) (hrun : (execOp a.eval o).run P W = .ok (.value (.pointer (some ⟨W.heap.size,0,none⟩))) (W.alloc (.cells cs t (0,0))):=by first | (go_simp;done) | (go_simp;rfl)) : wpList P ops Q (o :: rest) a W:=Kd.event_run hgd hrun (h _ rfl _ (blk_new W _) (below_alloc (Below.refl _ _) _))
theorem sY {W : World} (w1 : World) (h : ∀ w',w' = w1 → wpList P ops Q rest a w') {t : TypeId} {p : Tmp} {v : Operand} (ho : o.op = .store t (.tmp p) v:=by rfl) (hgd : o.guard = none:=by rfl) (hN : o.dst = none:=by rfl)
    (hrun : (execOp a.eval o).run P W = .ok .skip w1:=by first | (go_simp;done) | (go_simp;rfl)) : wpList P ops Q (o :: rest) a W:=store_event hgd ho hN hrun h
theorem gN {w : World} {N : Option Tmp} {f : FuncId} {fn : Func} {as : Array Operand} {ts : Array TypeId} (hf : P.funcs[f]? = some fn) (args : Array Value)
    (h : Calls P f args w fun e w' => ∃ v,e = .returned v ∧ wpList P ops Q rest (a.put N v) w') (hop : o.op = .call { callee:=.value (.func f),args:=as,argTypes:=ts }:=by rfl) (hd : o.dst = N:=by rfl) (hg : o.guard = none:=by rfl) (hname : (fn.name == "runtime.NumGoroutine") = false:=by kernel_rfl) (hb : fn.body.isSome = true:=by rfl)
    (hargs : as.map a.eval = args:=by (try simp only [List.map_toArray,List.map_cons,List.map_nil]);first | done | rfl | (simp only [List.length_drop,List.length_take];rfl)) : wpList P ops Q (o :: rest) a w:=goesL_ N hd hg hf hname hb args hop hargs h
end
section
variable {α : Type} {d : Kd α} {e : Nat} {w W W2 : World} {base : Nat} {ok : Nat → Prop} {v : Value} {xs : List α}
theorem oZ {p : Prop} [Decidable p] (h : decide p = true:=by first | (with_reducible assumption) | assumption) : p:=of_decide_eq_true h
theorem xB {g : Nat} {o : Obj} (h : Aside0 (w.heap[g]? = some o)) (hb : Below W.heap.size W W2) (s : Below w.heap.size w W:=by repeat (with_reducible first | exact Below.refl _ _ | apply below_alloc | apply pw_below_drewN | apply below_drew1)) : W2.heap[g]? = some o:=blk_below (oB h.out s) hb
theorem xR (h : Aside0 (d.R e w base ok v xs)) (hb : Below W.heap.size W W2) (s : Below w.heap.size w W:=by repeat (with_reducible first | exact Below.refl _ _ | apply below_alloc | apply pw_below_drewN | apply below_drew1)) : d.R e W2 base ok v xs:=Kd.R_below (oR h.out s) hb
theorem xL (hb : Below W.heap.size W W2) (s : Below w.heap.size w W:=by exact oL) : Below w.heap.size w W2:=below_step s hb
theorem xG {g : Nat} (hg : g = W2.heap.size) (_h : Aside0 (Below w.heap.size w W)) (s : Below w.heap.size w W2:=by exact oL) : w.heap.size ≤ g:=by rw [hg];exact below_size s
theorem xN {g g' : Nat} {o : Obj} (hg : g' = W.heap.size) (h : Aside0 (w.heap[g]? = some o)) (s : Below w.heap.size w W:=by repeat (with_reducible first | exact Below.refl _ _ | apply below_alloc | apply pw_below_drewN | apply below_drew1)) : g ≠ g':=oN hg (oB h.out s)
theorem xM {g g' : Nat} {o : Obj} (hg : g' = W.heap.size) (h : Aside0 (w.heap[g]? = some o)) (s : Below w.heap.size w W:=by repeat (with_reducible first | exact Below.refl _ _ | apply below_alloc | apply pw_below_drewN | apply below_drew1)) : g' ≠ g:=oM hg (oB h.out s)
theorem oQ {a : Addr} {u : Value} (HB : Aside0 (Below w.heap.size w W)) (h : w.cell? a = some u) (e : W2.cell? a = W.cell? a:=by rfl) : W2.cell? a = some u:=e.trans (oJ HB h)
theorem xc {g i t : Nat} {cs : Array Value} {u : Value} (h : Aside0 (w.heap[g]? = some (.cells cs t (0,0)))) (hu : cs[i]? = some u:=by rfl) : w.cell? ⟨g,i,none⟩ = some u:=(blk_cell h.out i).trans hu
end
theorem bA_ {α β : Type} {o : Option α} {f : α → Option β} {r : β} (h : o.bind f = some r) : ∃ t,Aside0 (o = some t) ∧ f t = some r:=by obtain ⟨t,h1,h2⟩:=bE h;exact ⟨t,⟨h1⟩,h2⟩
theorem bS {α β : Type} {x : α} {f : α → Option β} {r : β} (h : (some x).bind f = some r) : ∃ y,y = x ∧ f y = some r:=⟨x,rfl,h⟩
end Go.Proofs.YtjnifnhpnccpcaaGreatW.PrintMore
