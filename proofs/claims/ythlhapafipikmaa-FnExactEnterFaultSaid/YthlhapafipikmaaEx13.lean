-- Made by this session's program gprint.py out of the translation. Not trusted: Lean checks it.
import Derived.Test.YthlhapafipikmaaEx0
import Derived.Test.YthlhapafipikmaaEx10
import Derived.Test.YthlhapafipikmaaEx12
import Derived.Test.YthlhapafipikmaaEx17
namespace Go.Proofs.Ythlhapafipikmaa.E
open Go.RowKit Go.Proofs.YthlhapafipikmaaW.PrintWords Go.Proofs.YthlhapafipikmaaW.PrintLast Go.Proofs.YthlhapafipikmaaW.PrintMore
attribute [local go_sem] max2_int min2_int max_two min_two max_three min_three max_four min_four   -- for this text's walks alone
set_option linter.unusedVariables false
set_option linter.unusedSimpArgs false

/-! ### spec_l4Touch: function 93 (by hand) -/
def KeepX (w W : World) (g b1 : Nat) (r : Option Nat) : Prop := w.heap.size ≤ W.heap.size ∧ ∀ k,k < w.heap.size → k ≠ g → k ≠ b1 → some k ≠ r → W.heap[k]? = w.heap[k]?
theorem bsC {b g j : Nat} {w W : World} {v : Value} (h : Below b w W) (hg : b ≤ g) : Below b w (W.setCell ⟨g,j,none⟩ v) := h.setCell hg _
section
variable {w W w1 : World} {base g p t cp1 cp2 b1 : Nat} {cs : Array Value} {A2 : Option Addr} {okB okL : Nat → Prop} {B B' : List Int} {L L' : List S115}
theorem touch0 (hg : w.heap[g]? = some (.cells cs t (0,0))) (h1 : cs[p + 1]? = some (.slice A2 L.length cp2)) (ht : t ≠ 3 ∧ t ≠ 115)
    (hB : Kd.R (Kd.int .i64) 3 w base okB (.slice (some ⟨b1,0,none⟩) B.length cp1) B) (hL : Kd.R k115 115 w base okL (.slice A2 L.length cp2) L)
    (hk : KeepBut w W b1 none) (hb : Below base w W) (hB' : Kd.R (Kd.int .i64) 3 W base okB (.slice (some ⟨b1,0,none⟩) B.length cp1) B') :
    W.heap[g]? = some (.cells (cs.setIfInBounds (p + 1) (.slice A2 L.length cp2)) t (0,0)) ∧ Kd.R (Kd.int .i64) 3 W base okB (.slice (some ⟨b1,0,none⟩) B.length cp1) B' ∧
      Kd.R k115 115 W base (fun k => okL k ∨ w.heap.size ≤ k) (.slice A2 L.length cp2) L ∧ Below base w W ∧ KeepX w W g b1 (Value.slice A2 L.length cp2).ownBlock := by
  have hne : g ≠ b1 := fun e => Kd.R_ne hB hg (Ne.symm ht.1) (by simp [Value.ownBlock,e])
  obtain ⟨cells,hc⟩ := Kd.R_typed hB b1 (by simp [Value.ownBlock])
  refine ⟨?_,hB',Kd.R_mono (oF hL hc (by decide) hk) (fun _ h => .inl h),hb,hk.1,fun k h1 h2 h3 _ => hk.2 k h1 h3 (by simp)⟩
  have e : cs.setIfInBounds (p + 1) (.slice A2 L.length cp2) = cs := by
    apply Array.ext_getElem?
    intro i
    rw [Array.getElem?_setIfInBounds]
    split
    · next h => subst h;rw [h1];simp only [ite_eq_left_iff];intro h;rw [Array.getElem?_eq_none (by omega)] at h1;simp at h1
    · rfl
  rw [e]
  exact (hk.2 g (blk_lt hg) hne (by simp)).trans hg
theorem touch1 {v1 : Value} (hg : w.heap[g]? = some (.cells cs t (0,0))) (ht : t ≠ 3 ∧ t ≠ 115) (hbg : base ≤ g)
    (hB : Kd.R (Kd.int .i64) 3 w base okB (.slice (some ⟨b1,0,none⟩) B.length cp1) B) (hL : Kd.R k115 115 w base okL (.slice A2 L.length cp2) L)
    (hk : KeepBut w W b1 none) (hB' : Kd.R (Kd.int .i64) 3 W base okB (.slice (some ⟨b1,0,none⟩) B.length cp1) B')
    (ho : Kd.R k115 115 w1 base (fun k => okL k ∨ w.heap.size ≤ k) v1 L') (hb : Below base w w1) (hgr : W.grownBy w1 (Value.slice A2 L.length cp2).ownBlock) :
    (w1.setCell ⟨g,p + 1,none⟩ v1).heap[g]? = some (.cells (cs.setIfInBounds (p + 1) v1) t (0,0)) ∧ Kd.R (Kd.int .i64) 3 (w1.setCell ⟨g,p + 1,none⟩ v1) base okB (.slice (some ⟨b1,0,none⟩) B.length cp1) B' ∧
      Kd.R k115 115 (w1.setCell ⟨g,p + 1,none⟩ v1) base (fun k => okL k ∨ w.heap.size ≤ k) v1 L' ∧ Below base w (w1.setCell ⟨g,p + 1,none⟩ v1) ∧ KeepX w (w1.setCell ⟨g,p + 1,none⟩ v1) g b1 (Value.slice A2 L.length cp2).ownBlock := by
  have hne : g ≠ b1 := fun e => Kd.R_ne hB hg (Ne.symm ht.1) (by simp [Value.ownBlock,e])
  obtain ⟨cells,hc⟩ := Kd.R_typed hB b1 (by simp [Value.ownBlock])
  have hLW : Kd.R k115 115 W base okL (.slice A2 L.length cp2) L := oF hL hc (by decide) hk
  have hgW : W.heap[g]? = some (.cells cs t (0,0)) := (hk.2 g (blk_lt hg) hne (by simp)).trans hg
  have hg1 : w1.heap[g]? = some (.cells cs t (0,0)) := blk_grown hgW hgr (Kd.R_ne hLW hgW (Ne.symm ht.2))
  have hB1 := Kd.R_over' hB' (Kd.R_typed hLW) (by decide) hgr
  refine ⟨blk_set hg1 (p + 1) v1,oF hB1 hg1 (by simpa [show (Kd.int IntKind.i64).E = [] from rfl] using ht.1.symm),oF ho hg1 (by simpa [show k115.E = [] from rfl] using ht.2.symm),bsC hb hbg,?_,?_⟩
  · have := hk.1;have := hgr.size;simpa [World.setCell] using (by omega : w.heap.size ≤ w1.heap.size)
  · intro k h1 h2 h3 h4
    rw [Below.heap_setCell w1 ⟨g,p + 1,none⟩ v1 k h2,← hk.2 k h1 h3 (by simp)]
    exact hgr.block k (Nat.lt_of_lt_of_le h1 hk.1) h4
theorem KeepX.R {α : Type} {d : Kd α} {e e' : Nat} {ok : Nat → Prop} {v : Value} {xs : List α} {r : Option Nat} (h : KeepX w W g b1 r) (hr : d.R e w base ok v xs) (hg : w.heap[g]? = some (.cells cs t (0,0))) (ht : ∀ q,q ∈ e :: d.E → q ≠ t)
    (hrt : ∀ k,r = some k → ∃ cells,w.heap[k]? = some (.cells cells e' (0,0))) (he : ∀ q,q ∈ e :: d.E → q ≠ e') (hb : ∀ k,ok k → k ≠ b1) : d.R e W base ok v xs := by
  refine Kd.R_mono (Kd.R_step (Kd.R_types (Kd.R_bound hr) hg ht) (fun k hk hlt => h.2 k hlt hk.2 (hb k hk.1.1) ?_)) (fun _ hk => hk.1.1)
  intro hk'
  obtain ⟨c',hc'⟩ := hrt k hk'.symm
  obtain ⟨⟨_,_,_,q,hq,c2,hc2⟩,_⟩ := hk
  rw [hc'] at hc2;injection hc2 with hc2;injection hc2 with _ hc2
  exact he q hq hc2.symm
theorem KeepX.blk {r : Option Nat} {g' t' e1 e2 : Nat} {cs' c1 : Array Value} (h : KeepX w W g b1 r) (hg' : w.heap[g']? = some (.cells cs' t' (0,0))) (hne : g' ≠ g) (hb : w.heap[b1]? = some (.cells c1 e1 (0,0))) (h1 : t' ≠ e1)
    (hrt : ∀ k,r = some k → ∃ cells,w.heap[k]? = some (.cells cells e2 (0,0))) (h2 : t' ≠ e2) : W.heap[g']? = some (.cells cs' t' (0,0)) := by
  refine (h.2 g' (blk_lt hg') hne ?_ ?_).trans hg'
  · rintro rfl;rw [hb] at hg';injection hg' with hg';injection hg' with _ hg';exact h1 hg'.symm
  · intro hk;obtain ⟨c',hc'⟩ := hrt g' hk.symm;rw [hc'] at hg';injection hg' with hg';injection hg' with _ hg';exact h2 hg'.symm
end
theorem zLog {L : List S115} (h : L.length < 400) : (L.length + 1) * 40 ≤ 140737488355328 := by omega
def tchV (kind code value addr : Int) (B : List Int) : Int := if kind = 2 then value else if code = 0 then Go.bits .or .i64 (wrap64 ((Go.bits .or .i64 0 (rd B addr)) * 256)) (rd B (addr + 1)) else 0
def tchM (kind code value addr : Int) (B : List Int) : List Int := if kind = 2 ∧ code = 0 then (B.set addr.toNat (Go.bits .and .i64 (value / 256) 255)).set (addr + 1).toNat (Go.bits .and .i64 value 255) else B
def tchL (kind code value addr : Int) (B : List Int) (L : List S115) : List S115 := if L.length < 400 ∧ (kind ≠ 3 ∨ code ≠ 0) then L ++ [⟨kind,2,addr,tchV kind code value addr B,code⟩] else L
set_option maxHeartbeats 8000000 in
set_option maxRecDepth 100000 in
theorem spec_l4Touch.W0 (kk : Nat) (kind addr value code : Int) (B : List Int) (L : List S115) (w : World) (base g p t cp1 cp2 : Nat) (cs : Array Value) (b1 : Nat) (A2 : Option Addr) (okB okL : Nat → Prop)
    (hg : w.heap[g]? = some (.cells cs t (0,0))) (h0 : cs[p]? = some (.slice (some ⟨b1,0,none⟩) B.length cp1)) (h1 : cs[p + 1]? = some (.slice A2 L.length cp2)) (ht : t ≠ 3 ∧ t ≠ 115) (hbg : base ≤ g) (hbw : base ≤ w.heap.size)
    (hB : Kd.R (Kd.int .i64) 3 w base okB (.slice (some ⟨b1,0,none⟩) B.length cp1) B) (hL : Kd.R k115 115 w base okL (.slice A2 L.length cp2) L)
    (hk : spec_l4Code.f kk kind 2 addr = some code) (ha : 0 ≤ addr) (ha2 : addr ≤ 65535) (hk2 : kind = 2) (hc : code = 0) (hr : addr + 1 < (B.length : Int)) :
    Calls Try.prog 93 #[.pointer (some ⟨g,p,none⟩),.int .i64 kind,.int .i64 2,.int .i64 addr,.int .i64 value] w fun e w' => ∃ vL',e = .returned (.tuple #[.int .i64 (tchV kind code value addr B),.int .i64 code]) ∧
      w'.heap[g]? = some (.cells (cs.setIfInBounds (p + 1) vL') t (0,0)) ∧ Kd.R (Kd.int .i64) 3 w' base okB (.slice (some ⟨b1,0,none⟩) B.length cp1) (tchM kind code value addr B) ∧
      Kd.R k115 115 w' base (fun k => okL k ∨ w.heap.size ≤ k) vL' (tchL kind code value addr B L) ∧ Below base w w' ∧ KeepX w w' g b1 (Value.slice A2 L.length cp2).ownBlock := by
  subst hk2 hc
  have hu27 := Try.underlying34
  have hu109 := Try.underlying115
  have hc0 : w.cell? ⟨g,p,none⟩ = some (.slice (some ⟨b1,0,none⟩) B.length cp1) := (blk_cell hg p).trans h0
  have hc1 : w.cell? ⟨g,p + 1,none⟩ = some (.slice A2 L.length cp2) := (blk_cell hg (p + 1)).trans h1
  have hw0 : IntKind.i64.wrap addr = addr := by rw [i64_w];unfold wrap64;omega
  have hw1 : IntKind.i64.wrap (addr + 1) = addr + 1 := by rw [i64_w];unfold wrap64;omega
  have hne : some g ≠ (Value.slice (some ⟨b1,0,none⟩) B.length cp1).ownBlock := Kd.R_ne hB hg (Ne.symm ht.1)
  have hn1 : g ≠ b1 := fun e => hne (by simp [Value.ownBlock,e])
  have hn2 : b1 ≠ g := Ne.symm hn1
  have hne3 : addr.toNat ≠ (addr + 1).toNat := by omega
  have hne4 : (addr + 1).toNat ≠ addr.toNat := by omega
  have p0 : (0 ≤ addr) = True := eq_true ha
  have p1 : (0 ≤ addr + 1) = True := eq_true (by omega)
  obtain ⟨cells1,hbt⟩ := Kd.R_typed hB b1 (by simp [Value.ownBlock])
  have hb1 : base ≤ b1 := ((Kd.R_bound hB).1 b1 (by simp [Value.ownBlock])).2.1
  have q0 : (addr < (B.length : Int)) = True := eq_true (by omega)
  have q1 : (addr + 1 < (B.length : Int)) = True := eq_true hr
  obtain ⟨hx0,hf0⟩ : w.cell? ⟨b1,addr.toNat,none⟩ = some (.int .i64 (rd B addr)) ∧ _ := Kd.R_celln 0 hB addr ha (by omega)
  obtain ⟨hx1,hf1⟩ : w.cell? ⟨b1,(addr + 1).toNat,none⟩ = some (.int .i64 (rd B (addr + 1))) ∧ _ := Kd.R_celln 0 hB (addr + 1) (by omega) (by omega)
  have HP := Kd.R_putg hB addr (Go.bits .and .i64 (value / 256) 255)
  have HQ := Kd.R_putg HP.1 (addr + 1) (Go.bits .and .i64 value 255)
  by_cases c4 : L.length < 400
  · have c4b : decide ((L.length : Int) < 400) = true := decide_eq_true (by omega)
    go_enter Try.func93,Try.ntmps93
    go_wp2_with (first | (with_reducible rw [rounds_succ]) | (with_reducible refine wp_loop_rounds 4 ?_) | (go_at_call 125;(with_reducible refine (spec_l4Code.calls kk _ _ addr _ _ hk).mono ?_);rintro e w' ⟨rfl,⟨nd,rfl⟩⟩) | ((with_reducible refine gate_builtin (b := .append) (xs := #[.tmp 78,.tmp 85]) rfl ?_);(at_builtin;refine Kd.R_append k115 (w0 := w) base rfl (.tmp 78) (.tmp 85) 32 115 (.agg #[(.int .i64 0),(.int .i64 0),(.int .i64 0),(.int .i64 0),(.int .i64 0)]) 40 rfl Try.underlying32 info115 rfl (by decide) (by omega) (.slice A2 L.length cp2) L (⟨2,2,addr,value,0⟩ : S115) [.int .i64 2,.int .i64 2,.int .i64 addr,.int .i64 value,.int .i64 0] (fun k => okL k ∨ w.heap.size ≤ k) (fun _ => False) rfl ?aX ?aP (fun _ hk => hk.elim) ?aF ?aO ?aB ?aS ?aL ?_;(case aX => first | rfl | (simp [World.setCell,World.drewN];rfl));(case aP => exact k115_mkM _ _ _ (⟨2,2,addr,value,0⟩ : S115));(case aF => exact fun k hk => .inr (by simpa [World.setCell,World.drewN] using hk));(case aO => exact Kd.R_mono (oF hL hbt) (fun _ h => .inl h));(case aB => repeat (with_reducible first | exact Below.refl _ _ | apply pw_below_drewN | refine bsC ?_ hb1));(case aS => simpa [World.setCell,World.drewN] using hbw);(case aL => exact zLog c4);intro v1 w1 ho hb hgr hat;obtain ⟨Ao,co,rfl⟩ := Kd.R_slice ho;have hg1 : w1.heap[g]? = some (.cells cs t (0,0)) := (blk_grown (oG hg hn1) hgr (Kd.R_ne hL hg (Ne.symm ht.2)));have hc2 := (blk_cell hg1 p).trans h0;have hc3 := (blk_cell hg1 (p + 1)).trans h1;have hf3 := blk_frozen hg1 (p + 1))))
    refine bodyPost_ret (results_list (rs := [.tmp 10,.tmp 11]) (vs := [_,_]) rfl (by simp) (.tmp (.tmp .nil))) rfl ?_
    exact ⟨_,by simp [tchV],by simpa [tchM,tchL,tchV,c4] using touch1 (p := p) hg ht hbg hB hL (by repeat (with_reducible first | exact keep_refl _ _ | apply keep_put | apply keep_alloc | apply keep_drewN | apply keep_drew)) (Kd.R_putg (Kd.R_putg (Kd.R_drewN hB nd) addr (Go.bits .and .i64 (value / 256) 255)).1 (addr + 1) (Go.bits .and .i64 value 255)).1 ho hb hgr⟩
  · have c4b : decide ((L.length : Int) < 400) = false := decide_eq_false (by omega)
    go_enter Try.func93,Try.ntmps93
    go_wp2_with (first | (with_reducible rw [rounds_succ]) | (with_reducible refine wp_loop_rounds 4 ?_) | (go_at_call 125;(with_reducible refine (spec_l4Code.calls kk _ _ addr _ _ hk).mono ?_);rintro e w' ⟨rfl,⟨nd,rfl⟩⟩))
    refine bodyPost_ret (results_list (rs := [.tmp 10,.tmp 11]) (vs := [_,_]) rfl (by simp) (.tmp (.tmp .nil))) rfl ?_
    exact ⟨_,by simp [tchV],by simpa [tchM,tchL,tchV,c4] using touch0 (p := p) hg h1 ht hB hL (by repeat (with_reducible first | exact keep_refl _ _ | apply keep_put | apply keep_alloc | apply keep_drewN | apply keep_drew)) (by repeat (with_reducible first | exact Below.refl _ _ | apply pw_below_drewN | refine bsC ?_ hb1)) (Kd.R_putg (Kd.R_putg (Kd.R_drewN hB nd) addr (Go.bits .and .i64 (value / 256) 255)).1 (addr + 1) (Go.bits .and .i64 value 255)).1⟩
set_option maxHeartbeats 8000000 in
set_option maxRecDepth 100000 in
theorem spec_l4Touch.R0 (kk : Nat) (kind addr value code : Int) (B : List Int) (L : List S115) (w : World) (base g p t cp1 cp2 : Nat) (cs : Array Value) (b1 : Nat) (A2 : Option Addr) (okB okL : Nat → Prop)
    (hg : w.heap[g]? = some (.cells cs t (0,0))) (h0 : cs[p]? = some (.slice (some ⟨b1,0,none⟩) B.length cp1)) (h1 : cs[p + 1]? = some (.slice A2 L.length cp2)) (ht : t ≠ 3 ∧ t ≠ 115) (hbg : base ≤ g) (hbw : base ≤ w.heap.size)
    (hB : Kd.R (Kd.int .i64) 3 w base okB (.slice (some ⟨b1,0,none⟩) B.length cp1) B) (hL : Kd.R k115 115 w base okL (.slice A2 L.length cp2) L)
    (hk : spec_l4Code.f kk kind 2 addr = some code) (ha : 0 ≤ addr) (ha2 : addr ≤ 65535) (hk2 : kind = 1) (hc : code = 0) (hr : addr + 1 < (B.length : Int)) :
    Calls Try.prog 93 #[.pointer (some ⟨g,p,none⟩),.int .i64 kind,.int .i64 2,.int .i64 addr,.int .i64 value] w fun e w' => ∃ vL',e = .returned (.tuple #[.int .i64 (tchV kind code value addr B),.int .i64 code]) ∧
      w'.heap[g]? = some (.cells (cs.setIfInBounds (p + 1) vL') t (0,0)) ∧ Kd.R (Kd.int .i64) 3 w' base okB (.slice (some ⟨b1,0,none⟩) B.length cp1) (tchM kind code value addr B) ∧
      Kd.R k115 115 w' base (fun k => okL k ∨ w.heap.size ≤ k) vL' (tchL kind code value addr B L) ∧ Below base w w' ∧ KeepX w w' g b1 (Value.slice A2 L.length cp2).ownBlock := by
  subst hk2 hc
  have hu27 := Try.underlying34
  have hu109 := Try.underlying115
  have hc0 : w.cell? ⟨g,p,none⟩ = some (.slice (some ⟨b1,0,none⟩) B.length cp1) := (blk_cell hg p).trans h0
  have hc1 : w.cell? ⟨g,p + 1,none⟩ = some (.slice A2 L.length cp2) := (blk_cell hg (p + 1)).trans h1
  have hw0 : IntKind.i64.wrap addr = addr := by rw [i64_w];unfold wrap64;omega
  have hw1 : IntKind.i64.wrap (addr + 1) = addr + 1 := by rw [i64_w];unfold wrap64;omega
  have hne : some g ≠ (Value.slice (some ⟨b1,0,none⟩) B.length cp1).ownBlock := Kd.R_ne hB hg (Ne.symm ht.1)
  have hn1 : g ≠ b1 := fun e => hne (by simp [Value.ownBlock,e])
  have hn2 : b1 ≠ g := Ne.symm hn1
  have hne3 : addr.toNat ≠ (addr + 1).toNat := by omega
  have hne4 : (addr + 1).toNat ≠ addr.toNat := by omega
  have p0 : (0 ≤ addr) = True := eq_true ha
  have p1 : (0 ≤ addr + 1) = True := eq_true (by omega)
  obtain ⟨cells1,hbt⟩ := Kd.R_typed hB b1 (by simp [Value.ownBlock])
  have hb1 : base ≤ b1 := ((Kd.R_bound hB).1 b1 (by simp [Value.ownBlock])).2.1
  have q0 : (addr < (B.length : Int)) = True := eq_true (by omega)
  have q1 : (addr + 1 < (B.length : Int)) = True := eq_true hr
  obtain ⟨hx0,hf0⟩ : w.cell? ⟨b1,addr.toNat,none⟩ = some (.int .i64 (rd B addr)) ∧ _ := Kd.R_celln 0 hB addr ha (by omega)
  obtain ⟨hx1,hf1⟩ : w.cell? ⟨b1,(addr + 1).toNat,none⟩ = some (.int .i64 (rd B (addr + 1))) ∧ _ := Kd.R_celln 0 hB (addr + 1) (by omega) (by omega)
  by_cases c4 : L.length < 400
  · have c4b : decide ((L.length : Int) < 400) = true := decide_eq_true (by omega)
    go_enter Try.func93,Try.ntmps93
    go_wp2_with (first | (with_reducible rw [rounds_succ]) | (with_reducible refine wp_loop_rounds 4 ?_) | (go_at_call 125;(with_reducible refine (spec_l4Code.calls kk _ _ addr _ _ hk).mono ?_);rintro e w' ⟨rfl,⟨nd,rfl⟩⟩) | ((with_reducible refine gate_builtin (b := .append) (xs := #[.tmp 78,.tmp 85]) rfl ?_);(at_builtin;refine Kd.R_append k115 (w0 := w) base rfl (.tmp 78) (.tmp 85) 32 115 (.agg #[(.int .i64 0),(.int .i64 0),(.int .i64 0),(.int .i64 0),(.int .i64 0)]) 40 rfl Try.underlying32 info115 rfl (by decide) (by omega) (.slice A2 L.length cp2) L (⟨1,2,addr,(Go.bits .or .i64 (wrap64 ((Go.bits .or .i64 0 (rd B addr)) * 256)) (rd B (addr + 1))),0⟩ : S115) [.int .i64 1,.int .i64 2,.int .i64 addr,.int .i64 (Go.bits .or .i64 (wrap64 ((Go.bits .or .i64 0 (rd B addr)) * 256)) (rd B (addr + 1))),.int .i64 0] (fun k => okL k ∨ w.heap.size ≤ k) (fun _ => False) rfl ?aX ?aP (fun _ hk => hk.elim) ?aF ?aO ?aB ?aS ?aL ?_;(case aX => first | rfl | (simp [World.setCell,World.drewN];rfl));(case aP => exact k115_mkM _ _ _ (⟨1,2,addr,(Go.bits .or .i64 (wrap64 ((Go.bits .or .i64 0 (rd B addr)) * 256)) (rd B (addr + 1))),0⟩ : S115));(case aF => exact fun k hk => .inr (by simpa [World.setCell,World.drewN] using hk));(case aO => exact Kd.R_mono (oF hL hbt) (fun _ h => .inl h));(case aB => repeat (with_reducible first | exact Below.refl _ _ | apply pw_below_drewN | refine bsC ?_ hb1));(case aS => simpa [World.setCell,World.drewN] using hbw);(case aL => exact zLog c4);intro v1 w1 ho hb hgr hat;obtain ⟨Ao,co,rfl⟩ := Kd.R_slice ho;have hg1 : w1.heap[g]? = some (.cells cs t (0,0)) := (blk_grown (oG hg hn1) hgr (Kd.R_ne hL hg (Ne.symm ht.2)));have hc2 := (blk_cell hg1 p).trans h0;have hc3 := (blk_cell hg1 (p + 1)).trans h1;have hf3 := blk_frozen hg1 (p + 1))))
    refine bodyPost_ret (results_list (rs := [.tmp 10,.tmp 11]) (vs := [_,_]) rfl (by simp) (.tmp (.tmp .nil))) rfl ?_
    exact ⟨_,by simp [tchV],by simpa [tchM,tchL,tchV,c4] using touch1 (p := p) hg ht hbg hB hL (by repeat (with_reducible first | exact keep_refl _ _ | apply keep_put | apply keep_alloc | apply keep_drewN | apply keep_drew)) (Kd.R_drewN hB nd) ho hb hgr⟩
  · have c4b : decide ((L.length : Int) < 400) = false := decide_eq_false (by omega)
    go_enter Try.func93,Try.ntmps93
    go_wp2_with (first | (with_reducible rw [rounds_succ]) | (with_reducible refine wp_loop_rounds 4 ?_) | (go_at_call 125;(with_reducible refine (spec_l4Code.calls kk _ _ addr _ _ hk).mono ?_);rintro e w' ⟨rfl,⟨nd,rfl⟩⟩))
    refine bodyPost_ret (results_list (rs := [.tmp 10,.tmp 11]) (vs := [_,_]) rfl (by simp) (.tmp (.tmp .nil))) rfl ?_
    exact ⟨_,by simp [tchV],by simpa [tchM,tchL,tchV,c4] using touch0 (p := p) hg h1 ht hB hL (by repeat (with_reducible first | exact keep_refl _ _ | apply keep_put | apply keep_alloc | apply keep_drewN | apply keep_drew)) (by repeat (with_reducible first | exact Below.refl _ _ | apply pw_below_drewN | refine bsC ?_ hb1)) (Kd.R_drewN hB nd)⟩
set_option maxHeartbeats 8000000 in
set_option maxRecDepth 100000 in
theorem spec_l4Touch.F0 (kk : Nat) (kind addr value code : Int) (B : List Int) (L : List S115) (w : World) (base g p t cp1 cp2 : Nat) (cs : Array Value) (b1 : Nat) (A2 : Option Addr) (okB okL : Nat → Prop)
    (hg : w.heap[g]? = some (.cells cs t (0,0))) (h0 : cs[p]? = some (.slice (some ⟨b1,0,none⟩) B.length cp1)) (h1 : cs[p + 1]? = some (.slice A2 L.length cp2)) (ht : t ≠ 3 ∧ t ≠ 115) (hbg : base ≤ g) (hbw : base ≤ w.heap.size)
    (hB : Kd.R (Kd.int .i64) 3 w base okB (.slice (some ⟨b1,0,none⟩) B.length cp1) B) (hL : Kd.R k115 115 w base okL (.slice A2 L.length cp2) L)
    (hk : spec_l4Code.f kk kind 2 addr = some code) (ha : 0 ≤ addr) (ha2 : addr ≤ 65535) (hk2 : kind = 3) (hc : code = 0) (hr : addr + 1 < (B.length : Int)) :
    Calls Try.prog 93 #[.pointer (some ⟨g,p,none⟩),.int .i64 kind,.int .i64 2,.int .i64 addr,.int .i64 value] w fun e w' => ∃ vL',e = .returned (.tuple #[.int .i64 (tchV kind code value addr B),.int .i64 code]) ∧
      w'.heap[g]? = some (.cells (cs.setIfInBounds (p + 1) vL') t (0,0)) ∧ Kd.R (Kd.int .i64) 3 w' base okB (.slice (some ⟨b1,0,none⟩) B.length cp1) (tchM kind code value addr B) ∧
      Kd.R k115 115 w' base (fun k => okL k ∨ w.heap.size ≤ k) vL' (tchL kind code value addr B L) ∧ Below base w w' ∧ KeepX w w' g b1 (Value.slice A2 L.length cp2).ownBlock := by
  subst hk2 hc
  have hu27 := Try.underlying34
  have hu109 := Try.underlying115
  have hc0 : w.cell? ⟨g,p,none⟩ = some (.slice (some ⟨b1,0,none⟩) B.length cp1) := (blk_cell hg p).trans h0
  have hc1 : w.cell? ⟨g,p + 1,none⟩ = some (.slice A2 L.length cp2) := (blk_cell hg (p + 1)).trans h1
  have hw0 : IntKind.i64.wrap addr = addr := by rw [i64_w];unfold wrap64;omega
  have hw1 : IntKind.i64.wrap (addr + 1) = addr + 1 := by rw [i64_w];unfold wrap64;omega
  have hne : some g ≠ (Value.slice (some ⟨b1,0,none⟩) B.length cp1).ownBlock := Kd.R_ne hB hg (Ne.symm ht.1)
  have hn1 : g ≠ b1 := fun e => hne (by simp [Value.ownBlock,e])
  have hn2 : b1 ≠ g := Ne.symm hn1
  have hne3 : addr.toNat ≠ (addr + 1).toNat := by omega
  have hne4 : (addr + 1).toNat ≠ addr.toNat := by omega
  have p0 : (0 ≤ addr) = True := eq_true ha
  have p1 : (0 ≤ addr + 1) = True := eq_true (by omega)
  obtain ⟨cells1,hbt⟩ := Kd.R_typed hB b1 (by simp [Value.ownBlock])
  have hb1 : base ≤ b1 := ((Kd.R_bound hB).1 b1 (by simp [Value.ownBlock])).2.1
  have q0 : (addr < (B.length : Int)) = True := eq_true (by omega)
  have q1 : (addr + 1 < (B.length : Int)) = True := eq_true hr
  obtain ⟨hx0,hf0⟩ : w.cell? ⟨b1,addr.toNat,none⟩ = some (.int .i64 (rd B addr)) ∧ _ := Kd.R_celln 0 hB addr ha (by omega)
  obtain ⟨hx1,hf1⟩ : w.cell? ⟨b1,(addr + 1).toNat,none⟩ = some (.int .i64 (rd B (addr + 1))) ∧ _ := Kd.R_celln 0 hB (addr + 1) (by omega) (by omega)
  by_cases c4 : L.length < 400
  · have c4b : decide ((L.length : Int) < 400) = true := decide_eq_true (by omega)
    go_enter Try.func93,Try.ntmps93
    go_wp2_with (first | (with_reducible rw [rounds_succ]) | (with_reducible refine wp_loop_rounds 4 ?_) | (go_at_call 125;(with_reducible refine (spec_l4Code.calls kk _ _ addr _ _ hk).mono ?_);rintro e w' ⟨rfl,⟨nd,rfl⟩⟩))
    refine bodyPost_ret (results_list (rs := [.tmp 10,.tmp 11]) (vs := [_,_]) rfl (by simp) (.tmp (.tmp .nil))) rfl ?_
    exact ⟨_,by simp [tchV],by simpa [tchM,tchL,tchV] using touch0 (p := p) hg h1 ht hB hL (by repeat (with_reducible first | exact keep_refl _ _ | apply keep_put | apply keep_alloc | apply keep_drewN | apply keep_drew)) (by repeat (with_reducible first | exact Below.refl _ _ | apply pw_below_drewN | refine bsC ?_ hb1)) (Kd.R_drewN hB nd)⟩
  · have c4b : decide ((L.length : Int) < 400) = false := decide_eq_false (by omega)
    go_enter Try.func93,Try.ntmps93
    go_wp2_with (first | (with_reducible rw [rounds_succ]) | (with_reducible refine wp_loop_rounds 4 ?_) | (go_at_call 125;(with_reducible refine (spec_l4Code.calls kk _ _ addr _ _ hk).mono ?_);rintro e w' ⟨rfl,⟨nd,rfl⟩⟩))
    refine bodyPost_ret (results_list (rs := [.tmp 10,.tmp 11]) (vs := [_,_]) rfl (by simp) (.tmp (.tmp .nil))) rfl ?_
    exact ⟨_,by simp [tchV],by simpa [tchM,tchL,tchV] using touch0 (p := p) hg h1 ht hB hL (by repeat (with_reducible first | exact keep_refl _ _ | apply keep_put | apply keep_alloc | apply keep_drewN | apply keep_drew)) (by repeat (with_reducible first | exact Below.refl _ _ | apply pw_below_drewN | refine bsC ?_ hb1)) (Kd.R_drewN hB nd)⟩
set_option maxHeartbeats 8000000 in
set_option maxRecDepth 100000 in
theorem spec_l4Touch.X1 (kk : Nat) (kind addr value code : Int) (B : List Int) (L : List S115) (w : World) (base g p t cp1 cp2 : Nat) (cs : Array Value) (b1 : Nat) (A2 : Option Addr) (okB okL : Nat → Prop)
    (hg : w.heap[g]? = some (.cells cs t (0,0))) (h0 : cs[p]? = some (.slice (some ⟨b1,0,none⟩) B.length cp1)) (h1 : cs[p + 1]? = some (.slice A2 L.length cp2)) (ht : t ≠ 3 ∧ t ≠ 115) (hbg : base ≤ g) (hbw : base ≤ w.heap.size)
    (hB : Kd.R (Kd.int .i64) 3 w base okB (.slice (some ⟨b1,0,none⟩) B.length cp1) B) (hL : Kd.R k115 115 w base okL (.slice A2 L.length cp2) L)
    (hk : spec_l4Code.f kk kind 2 addr = some code) (ha : 0 ≤ addr) (ha2 : addr ≤ 65535) (hk2 : kind = 1) (hc : code ≠ 0) :
    Calls Try.prog 93 #[.pointer (some ⟨g,p,none⟩),.int .i64 kind,.int .i64 2,.int .i64 addr,.int .i64 value] w fun e w' => ∃ vL',e = .returned (.tuple #[.int .i64 (tchV kind code value addr B),.int .i64 code]) ∧
      w'.heap[g]? = some (.cells (cs.setIfInBounds (p + 1) vL') t (0,0)) ∧ Kd.R (Kd.int .i64) 3 w' base okB (.slice (some ⟨b1,0,none⟩) B.length cp1) (tchM kind code value addr B) ∧
      Kd.R k115 115 w' base (fun k => okL k ∨ w.heap.size ≤ k) vL' (tchL kind code value addr B L) ∧ Below base w w' ∧ KeepX w w' g b1 (Value.slice A2 L.length cp2).ownBlock := by
  subst hk2
  obtain ⟨d0,d1⟩ := eF hc
  have hu27 := Try.underlying34
  have hu109 := Try.underlying115
  have hc0 : w.cell? ⟨g,p,none⟩ = some (.slice (some ⟨b1,0,none⟩) B.length cp1) := (blk_cell hg p).trans h0
  have hc1 : w.cell? ⟨g,p + 1,none⟩ = some (.slice A2 L.length cp2) := (blk_cell hg (p + 1)).trans h1
  have hw0 : IntKind.i64.wrap addr = addr := by rw [i64_w];unfold wrap64;omega
  have hw1 : IntKind.i64.wrap (addr + 1) = addr + 1 := by rw [i64_w];unfold wrap64;omega
  have hne : some g ≠ (Value.slice (some ⟨b1,0,none⟩) B.length cp1).ownBlock := Kd.R_ne hB hg (Ne.symm ht.1)
  have hn1 : g ≠ b1 := fun e => hne (by simp [Value.ownBlock,e])
  have hn2 : b1 ≠ g := Ne.symm hn1
  have hne3 : addr.toNat ≠ (addr + 1).toNat := by omega
  have hne4 : (addr + 1).toNat ≠ addr.toNat := by omega
  have p0 : (0 ≤ addr) = True := eq_true ha
  have p1 : (0 ≤ addr + 1) = True := eq_true (by omega)
  obtain ⟨cells1,hbt⟩ := Kd.R_typed hB b1 (by simp [Value.ownBlock])
  have hb1 : base ≤ b1 := ((Kd.R_bound hB).1 b1 (by simp [Value.ownBlock])).2.1
  by_cases c4 : L.length < 400
  · have c4b : decide ((L.length : Int) < 400) = true := decide_eq_true (by omega)
    go_enter Try.func93,Try.ntmps93
    go_wp2_with (first | (go_at_call 125;(with_reducible refine (spec_l4Code.calls kk _ _ addr _ _ hk).mono ?_);rintro e w' ⟨rfl,⟨nd,rfl⟩⟩) | ((with_reducible refine gate_builtin (b := .append) (xs := #[.tmp 78,.tmp 85]) rfl ?_);(at_builtin;refine Kd.R_append k115 (w0 := w) base rfl (.tmp 78) (.tmp 85) 32 115 (.agg #[(.int .i64 0),(.int .i64 0),(.int .i64 0),(.int .i64 0),(.int .i64 0)]) 40 rfl Try.underlying32 info115 rfl (by decide) (by omega) (.slice A2 L.length cp2) L (⟨1,2,addr,0,code⟩ : S115) [.int .i64 1,.int .i64 2,.int .i64 addr,.int .i64 0,.int .i64 code] (fun k => okL k ∨ w.heap.size ≤ k) (fun _ => False) rfl ?aX ?aP (fun _ hk => hk.elim) ?aF ?aO ?aB ?aS ?aL ?_;(case aX => first | rfl | (simp [World.setCell,World.drewN];rfl));(case aP => exact k115_mkM _ _ _ (⟨1,2,addr,0,code⟩ : S115));(case aF => exact fun k hk => .inr (by simpa [World.setCell,World.drewN] using hk));(case aO => exact Kd.R_mono (oF hL hbt) (fun _ h => .inl h));(case aB => repeat (with_reducible first | exact Below.refl _ _ | apply pw_below_drewN | refine bsC ?_ hb1));(case aS => simpa [World.setCell,World.drewN] using hbw);(case aL => exact zLog c4);intro v1 w1 ho hb hgr hat;obtain ⟨Ao,co,rfl⟩ := Kd.R_slice ho;have hg1 : w1.heap[g]? = some (.cells cs t (0,0)) := (blk_grown (oG hg hn1) hgr (Kd.R_ne hL hg (Ne.symm ht.2)));have hc2 := (blk_cell hg1 p).trans h0;have hc3 := (blk_cell hg1 (p + 1)).trans h1;have hf3 := blk_frozen hg1 (p + 1))))
    refine bodyPost_ret (results_list (rs := [.tmp 10,.tmp 11]) (vs := [_,_]) rfl (by simp) (.tmp (.tmp .nil))) rfl ?_
    exact ⟨_,by simp [tchV,hc],by simpa [tchM,tchL,tchV,c4,hc] using touch1 (p := p) hg ht hbg hB hL (by repeat (with_reducible first | exact keep_refl _ _ | apply keep_put | apply keep_alloc | apply keep_drewN | apply keep_drew)) (Kd.R_drewN hB nd) ho hb hgr⟩
  · have c4b : decide ((L.length : Int) < 400) = false := decide_eq_false (by omega)
    go_enter Try.func93,Try.ntmps93
    go_wp2_with (first | (go_at_call 125;(with_reducible refine (spec_l4Code.calls kk _ _ addr _ _ hk).mono ?_);rintro e w' ⟨rfl,⟨nd,rfl⟩⟩))
    refine bodyPost_ret (results_list (rs := [.tmp 10,.tmp 11]) (vs := [_,_]) rfl (by simp) (.tmp (.tmp .nil))) rfl ?_
    exact ⟨_,by simp [tchV,hc],by simpa [tchM,tchL,tchV,c4,hc] using touch0 (p := p) hg h1 ht hB hL (by repeat (with_reducible first | exact keep_refl _ _ | apply keep_put | apply keep_alloc | apply keep_drewN | apply keep_drew)) (by repeat (with_reducible first | exact Below.refl _ _ | apply pw_below_drewN | refine bsC ?_ hb1)) (Kd.R_drewN hB nd)⟩
set_option maxHeartbeats 8000000 in
set_option maxRecDepth 100000 in
theorem spec_l4Touch.X2 (kk : Nat) (kind addr value code : Int) (B : List Int) (L : List S115) (w : World) (base g p t cp1 cp2 : Nat) (cs : Array Value) (b1 : Nat) (A2 : Option Addr) (okB okL : Nat → Prop)
    (hg : w.heap[g]? = some (.cells cs t (0,0))) (h0 : cs[p]? = some (.slice (some ⟨b1,0,none⟩) B.length cp1)) (h1 : cs[p + 1]? = some (.slice A2 L.length cp2)) (ht : t ≠ 3 ∧ t ≠ 115) (hbg : base ≤ g) (hbw : base ≤ w.heap.size)
    (hB : Kd.R (Kd.int .i64) 3 w base okB (.slice (some ⟨b1,0,none⟩) B.length cp1) B) (hL : Kd.R k115 115 w base okL (.slice A2 L.length cp2) L)
    (hk : spec_l4Code.f kk kind 2 addr = some code) (ha : 0 ≤ addr) (ha2 : addr ≤ 65535) (hk2 : kind = 2) (hc : code ≠ 0) :
    Calls Try.prog 93 #[.pointer (some ⟨g,p,none⟩),.int .i64 kind,.int .i64 2,.int .i64 addr,.int .i64 value] w fun e w' => ∃ vL',e = .returned (.tuple #[.int .i64 (tchV kind code value addr B),.int .i64 code]) ∧
      w'.heap[g]? = some (.cells (cs.setIfInBounds (p + 1) vL') t (0,0)) ∧ Kd.R (Kd.int .i64) 3 w' base okB (.slice (some ⟨b1,0,none⟩) B.length cp1) (tchM kind code value addr B) ∧
      Kd.R k115 115 w' base (fun k => okL k ∨ w.heap.size ≤ k) vL' (tchL kind code value addr B L) ∧ Below base w w' ∧ KeepX w w' g b1 (Value.slice A2 L.length cp2).ownBlock := by
  subst hk2
  obtain ⟨d0,d1⟩ := eF hc
  have hu27 := Try.underlying34
  have hu109 := Try.underlying115
  have hc0 : w.cell? ⟨g,p,none⟩ = some (.slice (some ⟨b1,0,none⟩) B.length cp1) := (blk_cell hg p).trans h0
  have hc1 : w.cell? ⟨g,p + 1,none⟩ = some (.slice A2 L.length cp2) := (blk_cell hg (p + 1)).trans h1
  have hw0 : IntKind.i64.wrap addr = addr := by rw [i64_w];unfold wrap64;omega
  have hw1 : IntKind.i64.wrap (addr + 1) = addr + 1 := by rw [i64_w];unfold wrap64;omega
  have hne : some g ≠ (Value.slice (some ⟨b1,0,none⟩) B.length cp1).ownBlock := Kd.R_ne hB hg (Ne.symm ht.1)
  have hn1 : g ≠ b1 := fun e => hne (by simp [Value.ownBlock,e])
  have hn2 : b1 ≠ g := Ne.symm hn1
  have hne3 : addr.toNat ≠ (addr + 1).toNat := by omega
  have hne4 : (addr + 1).toNat ≠ addr.toNat := by omega
  have p0 : (0 ≤ addr) = True := eq_true ha
  have p1 : (0 ≤ addr + 1) = True := eq_true (by omega)
  obtain ⟨cells1,hbt⟩ := Kd.R_typed hB b1 (by simp [Value.ownBlock])
  have hb1 : base ≤ b1 := ((Kd.R_bound hB).1 b1 (by simp [Value.ownBlock])).2.1
  by_cases c4 : L.length < 400
  · have c4b : decide ((L.length : Int) < 400) = true := decide_eq_true (by omega)
    go_enter Try.func93,Try.ntmps93
    go_wp2_with (first | (go_at_call 125;(with_reducible refine (spec_l4Code.calls kk _ _ addr _ _ hk).mono ?_);rintro e w' ⟨rfl,⟨nd,rfl⟩⟩) | ((with_reducible refine gate_builtin (b := .append) (xs := #[.tmp 78,.tmp 85]) rfl ?_);(at_builtin;refine Kd.R_append k115 (w0 := w) base rfl (.tmp 78) (.tmp 85) 32 115 (.agg #[(.int .i64 0),(.int .i64 0),(.int .i64 0),(.int .i64 0),(.int .i64 0)]) 40 rfl Try.underlying32 info115 rfl (by decide) (by omega) (.slice A2 L.length cp2) L (⟨2,2,addr,value,code⟩ : S115) [.int .i64 2,.int .i64 2,.int .i64 addr,.int .i64 value,.int .i64 code] (fun k => okL k ∨ w.heap.size ≤ k) (fun _ => False) rfl ?aX ?aP (fun _ hk => hk.elim) ?aF ?aO ?aB ?aS ?aL ?_;(case aX => first | rfl | (simp [World.setCell,World.drewN];rfl));(case aP => exact k115_mkM _ _ _ (⟨2,2,addr,value,code⟩ : S115));(case aF => exact fun k hk => .inr (by simpa [World.setCell,World.drewN] using hk));(case aO => exact Kd.R_mono (oF hL hbt) (fun _ h => .inl h));(case aB => repeat (with_reducible first | exact Below.refl _ _ | apply pw_below_drewN | refine bsC ?_ hb1));(case aS => simpa [World.setCell,World.drewN] using hbw);(case aL => exact zLog c4);intro v1 w1 ho hb hgr hat;obtain ⟨Ao,co,rfl⟩ := Kd.R_slice ho;have hg1 : w1.heap[g]? = some (.cells cs t (0,0)) := (blk_grown (oG hg hn1) hgr (Kd.R_ne hL hg (Ne.symm ht.2)));have hc2 := (blk_cell hg1 p).trans h0;have hc3 := (blk_cell hg1 (p + 1)).trans h1;have hf3 := blk_frozen hg1 (p + 1))))
    refine bodyPost_ret (results_list (rs := [.tmp 10,.tmp 11]) (vs := [_,_]) rfl (by simp) (.tmp (.tmp .nil))) rfl ?_
    exact ⟨_,by simp [tchV,hc],by simpa [tchM,tchL,tchV,c4,hc] using touch1 (p := p) hg ht hbg hB hL (by repeat (with_reducible first | exact keep_refl _ _ | apply keep_put | apply keep_alloc | apply keep_drewN | apply keep_drew)) (Kd.R_drewN hB nd) ho hb hgr⟩
  · have c4b : decide ((L.length : Int) < 400) = false := decide_eq_false (by omega)
    go_enter Try.func93,Try.ntmps93
    go_wp2_with (first | (go_at_call 125;(with_reducible refine (spec_l4Code.calls kk _ _ addr _ _ hk).mono ?_);rintro e w' ⟨rfl,⟨nd,rfl⟩⟩))
    refine bodyPost_ret (results_list (rs := [.tmp 10,.tmp 11]) (vs := [_,_]) rfl (by simp) (.tmp (.tmp .nil))) rfl ?_
    exact ⟨_,by simp [tchV,hc],by simpa [tchM,tchL,tchV,c4,hc] using touch0 (p := p) hg h1 ht hB hL (by repeat (with_reducible first | exact keep_refl _ _ | apply keep_put | apply keep_alloc | apply keep_drewN | apply keep_drew)) (by repeat (with_reducible first | exact Below.refl _ _ | apply pw_below_drewN | refine bsC ?_ hb1)) (Kd.R_drewN hB nd)⟩
set_option maxHeartbeats 8000000 in
set_option maxRecDepth 100000 in
theorem spec_l4Touch.X3 (kk : Nat) (kind addr value code : Int) (B : List Int) (L : List S115) (w : World) (base g p t cp1 cp2 : Nat) (cs : Array Value) (b1 : Nat) (A2 : Option Addr) (okB okL : Nat → Prop)
    (hg : w.heap[g]? = some (.cells cs t (0,0))) (h0 : cs[p]? = some (.slice (some ⟨b1,0,none⟩) B.length cp1)) (h1 : cs[p + 1]? = some (.slice A2 L.length cp2)) (ht : t ≠ 3 ∧ t ≠ 115) (hbg : base ≤ g) (hbw : base ≤ w.heap.size)
    (hB : Kd.R (Kd.int .i64) 3 w base okB (.slice (some ⟨b1,0,none⟩) B.length cp1) B) (hL : Kd.R k115 115 w base okL (.slice A2 L.length cp2) L)
    (hk : spec_l4Code.f kk kind 2 addr = some code) (ha : 0 ≤ addr) (ha2 : addr ≤ 65535) (hk2 : kind = 3) (hc : code ≠ 0) :
    Calls Try.prog 93 #[.pointer (some ⟨g,p,none⟩),.int .i64 kind,.int .i64 2,.int .i64 addr,.int .i64 value] w fun e w' => ∃ vL',e = .returned (.tuple #[.int .i64 (tchV kind code value addr B),.int .i64 code]) ∧
      w'.heap[g]? = some (.cells (cs.setIfInBounds (p + 1) vL') t (0,0)) ∧ Kd.R (Kd.int .i64) 3 w' base okB (.slice (some ⟨b1,0,none⟩) B.length cp1) (tchM kind code value addr B) ∧
      Kd.R k115 115 w' base (fun k => okL k ∨ w.heap.size ≤ k) vL' (tchL kind code value addr B L) ∧ Below base w w' ∧ KeepX w w' g b1 (Value.slice A2 L.length cp2).ownBlock := by
  subst hk2
  obtain ⟨d0,d1⟩ := eF hc
  have hu27 := Try.underlying34
  have hu109 := Try.underlying115
  have hc0 : w.cell? ⟨g,p,none⟩ = some (.slice (some ⟨b1,0,none⟩) B.length cp1) := (blk_cell hg p).trans h0
  have hc1 : w.cell? ⟨g,p + 1,none⟩ = some (.slice A2 L.length cp2) := (blk_cell hg (p + 1)).trans h1
  have hw0 : IntKind.i64.wrap addr = addr := by rw [i64_w];unfold wrap64;omega
  have hw1 : IntKind.i64.wrap (addr + 1) = addr + 1 := by rw [i64_w];unfold wrap64;omega
  have hne : some g ≠ (Value.slice (some ⟨b1,0,none⟩) B.length cp1).ownBlock := Kd.R_ne hB hg (Ne.symm ht.1)
  have hn1 : g ≠ b1 := fun e => hne (by simp [Value.ownBlock,e])
  have hn2 : b1 ≠ g := Ne.symm hn1
  have hne3 : addr.toNat ≠ (addr + 1).toNat := by omega
  have hne4 : (addr + 1).toNat ≠ addr.toNat := by omega
  have p0 : (0 ≤ addr) = True := eq_true ha
  have p1 : (0 ≤ addr + 1) = True := eq_true (by omega)
  obtain ⟨cells1,hbt⟩ := Kd.R_typed hB b1 (by simp [Value.ownBlock])
  have hb1 : base ≤ b1 := ((Kd.R_bound hB).1 b1 (by simp [Value.ownBlock])).2.1
  by_cases c4 : L.length < 400
  · have c4b : decide ((L.length : Int) < 400) = true := decide_eq_true (by omega)
    go_enter Try.func93,Try.ntmps93
    go_wp2_with (first | (go_at_call 125;(with_reducible refine (spec_l4Code.calls kk _ _ addr _ _ hk).mono ?_);rintro e w' ⟨rfl,⟨nd,rfl⟩⟩) | ((with_reducible refine gate_builtin (b := .append) (xs := #[.tmp 78,.tmp 85]) rfl ?_);(at_builtin;refine Kd.R_append k115 (w0 := w) base rfl (.tmp 78) (.tmp 85) 32 115 (.agg #[(.int .i64 0),(.int .i64 0),(.int .i64 0),(.int .i64 0),(.int .i64 0)]) 40 rfl Try.underlying32 info115 rfl (by decide) (by omega) (.slice A2 L.length cp2) L (⟨3,2,addr,0,code⟩ : S115) [.int .i64 3,.int .i64 2,.int .i64 addr,.int .i64 0,.int .i64 code] (fun k => okL k ∨ w.heap.size ≤ k) (fun _ => False) rfl ?aX ?aP (fun _ hk => hk.elim) ?aF ?aO ?aB ?aS ?aL ?_;(case aX => first | rfl | (simp [World.setCell,World.drewN];rfl));(case aP => exact k115_mkM _ _ _ (⟨3,2,addr,0,code⟩ : S115));(case aF => exact fun k hk => .inr (by simpa [World.setCell,World.drewN] using hk));(case aO => exact Kd.R_mono (oF hL hbt) (fun _ h => .inl h));(case aB => repeat (with_reducible first | exact Below.refl _ _ | apply pw_below_drewN | refine bsC ?_ hb1));(case aS => simpa [World.setCell,World.drewN] using hbw);(case aL => exact zLog c4);intro v1 w1 ho hb hgr hat;obtain ⟨Ao,co,rfl⟩ := Kd.R_slice ho;have hg1 : w1.heap[g]? = some (.cells cs t (0,0)) := (blk_grown (oG hg hn1) hgr (Kd.R_ne hL hg (Ne.symm ht.2)));have hc2 := (blk_cell hg1 p).trans h0;have hc3 := (blk_cell hg1 (p + 1)).trans h1;have hf3 := blk_frozen hg1 (p + 1))))
    refine bodyPost_ret (results_list (rs := [.tmp 10,.tmp 11]) (vs := [_,_]) rfl (by simp) (.tmp (.tmp .nil))) rfl ?_
    exact ⟨_,by simp [tchV,hc],by simpa [tchM,tchL,tchV,c4,hc] using touch1 (p := p) hg ht hbg hB hL (by repeat (with_reducible first | exact keep_refl _ _ | apply keep_put | apply keep_alloc | apply keep_drewN | apply keep_drew)) (Kd.R_drewN hB nd) ho hb hgr⟩
  · have c4b : decide ((L.length : Int) < 400) = false := decide_eq_false (by omega)
    go_enter Try.func93,Try.ntmps93
    go_wp2_with (first | (go_at_call 125;(with_reducible refine (spec_l4Code.calls kk _ _ addr _ _ hk).mono ?_);rintro e w' ⟨rfl,⟨nd,rfl⟩⟩))
    refine bodyPost_ret (results_list (rs := [.tmp 10,.tmp 11]) (vs := [_,_]) rfl (by simp) (.tmp (.tmp .nil))) rfl ?_
    exact ⟨_,by simp [tchV,hc],by simpa [tchM,tchL,tchV,c4,hc] using touch0 (p := p) hg h1 ht hB hL (by repeat (with_reducible first | exact keep_refl _ _ | apply keep_put | apply keep_alloc | apply keep_drewN | apply keep_drew)) (by repeat (with_reducible first | exact Below.refl _ _ | apply pw_below_drewN | refine bsC ?_ hb1)) (Kd.R_drewN hB nd)⟩
theorem spec_l4Touch.T (kk : Nat) (kind addr value code : Int) (B : List Int) (L : List S115) (w : World) (base g p t cp1 cp2 : Nat) (cs : Array Value) (b1 : Nat) (A2 : Option Addr) (okB okL : Nat → Prop)
    (hg : w.heap[g]? = some (.cells cs t (0,0))) (h0 : cs[p]? = some (.slice (some ⟨b1,0,none⟩) B.length cp1)) (h1 : cs[p + 1]? = some (.slice A2 L.length cp2)) (ht : t ≠ 3 ∧ t ≠ 115) (hbg : base ≤ g) (hbw : base ≤ w.heap.size)
    (hB : Kd.R (Kd.int .i64) 3 w base okB (.slice (some ⟨b1,0,none⟩) B.length cp1) B) (hL : Kd.R k115 115 w base okL (.slice A2 L.length cp2) L)
    (hk : spec_l4Code.f kk kind 2 addr = some code) (ha : 0 ≤ addr) (ha2 : addr ≤ 65535) (hkd : kind = 1 ∨ kind = 2 ∨ kind = 3) (hr : code = 0 → addr + 1 < (B.length : Int)) :
    Calls Try.prog 93 #[.pointer (some ⟨g,p,none⟩),.int .i64 kind,.int .i64 2,.int .i64 addr,.int .i64 value] w fun e w' => ∃ vL',e = .returned (.tuple #[.int .i64 (tchV kind code value addr B),.int .i64 code]) ∧
      w'.heap[g]? = some (.cells (cs.setIfInBounds (p + 1) vL') t (0,0)) ∧ Kd.R (Kd.int .i64) 3 w' base okB (.slice (some ⟨b1,0,none⟩) B.length cp1) (tchM kind code value addr B) ∧
      Kd.R k115 115 w' base (fun k => okL k ∨ w.heap.size ≤ k) vL' (tchL kind code value addr B L) ∧ Below base w w' ∧ KeepX w w' g b1 (Value.slice A2 L.length cp2).ownBlock := by
  by_cases hc : code = 0
  · rcases hkd with h | h | h
    · exact spec_l4Touch.R0 kk kind addr value code B L w base g p t cp1 cp2 cs b1 A2 okB okL hg h0 h1 ht hbg hbw hB hL hk ha ha2 h hc (hr hc)
    · exact spec_l4Touch.W0 kk kind addr value code B L w base g p t cp1 cp2 cs b1 A2 okB okL hg h0 h1 ht hbg hbw hB hL hk ha ha2 h hc (hr hc)
    · exact spec_l4Touch.F0 kk kind addr value code B L w base g p t cp1 cp2 cs b1 A2 okB okL hg h0 h1 ht hbg hbw hB hL hk ha ha2 h hc (hr hc)
  · rcases hkd with h | h | h
    · exact spec_l4Touch.X1 kk kind addr value code B L w base g p t cp1 cp2 cs b1 A2 okB okL hg h0 h1 ht hbg hbw hB hL hk ha ha2 h hc
    · exact spec_l4Touch.X2 kk kind addr value code B L w base g p t cp1 cp2 cs b1 A2 okB okL hg h0 h1 ht hbg hbw hB hL hk ha ha2 h hc
    · exact spec_l4Touch.X3 kk kind addr value code B L w base g p t cp1 cp2 cs b1 A2 okB okL hg h0 h1 ht hbg hbw hB hL hk ha ha2 h hc
def SM (W : World) (base g : Nat) (AD AA AL : Option Addr) (b1 cD cA cB cL : Nat) (D A : List Int) (i2 i3 i4 i5 : Int) (b6 b7 : Bool) (B : List Int) (L : List S115) (b10 : Bool) (f11 f12 f13 f14 : Int) (f15 : Bool) : Prop :=
  W.heap[g]? = some (.cells #[.slice AD D.length cD,.slice AA A.length cA,.int .i64 i2,.int .i64 i3,.int .i64 i4,.int .i64 i5,.bool b6,.bool b7,.slice (some ⟨b1,0,none⟩) B.length cB,.slice AL L.length cL,.bool b10,.int .i64 f11,.int .i64 f12,.int .i64 f13,.int .i64 f14,.bool f15] 88 (0,0)) ∧ base ≤ g ∧ base ≤ W.heap.size ∧
  Kd.R (Kd.int .i64) 3 W base (fun k => some k ≠ (Value.slice AA A.length cA).ownBlock ∧ k ≠ b1) (.slice AD D.length cD) D ∧
  Kd.R (Kd.int .i64) 3 W base (fun k => some k ≠ (Value.slice AD D.length cD).ownBlock ∧ k ≠ b1) (.slice AA A.length cA) A ∧
  Kd.R (Kd.int .i64) 3 W base (fun k => some k ≠ (Value.slice AD D.length cD).ownBlock ∧ some k ≠ (Value.slice AA A.length cA).ownBlock) (.slice (some ⟨b1,0,none⟩) B.length cB) B ∧
  Kd.R k115 115 W base (fun _ => True) (.slice AL L.length cL) L
def FrM (W W' : World) (g : Nat) : Prop := W.heap.size ≤ W'.heap.size ∧ ∀ k cells t,k ≠ g → t ≠ 3 → t ≠ 115 → W.heap[k]? = some (.cells cells t (0,0)) → W'.heap[k]? = some (.cells cells t (0,0))
theorem FrM.refl (W : World) (g : Nat) : FrM W W g := ⟨Nat.le_refl _,fun _ _ _ _ _ _ h => h⟩
theorem FrM.trans {W W' W2 : World} {g : Nat} (h : FrM W W' g) (h2 : FrM W' W2 g) : FrM W W2 g := ⟨Nat.le_trans h.1 h2.1,fun k c t a b d e => h2.2 k c t a b d (h.2 k c t a b d e)⟩
theorem FrM.set {W W' : World} {g j : Nat} {v : Value} (h : FrM W W' g) : FrM W (W'.setCell ⟨g,j,none⟩ v) g := ⟨by simpa [World.setCell] using h.1,fun k c t a b d e => (Below.heap_setCell W' ⟨g,j,none⟩ v k a).trans (h.2 k c t a b d e)⟩
section
variable {W : World} {base g : Nat} {AD AA AL : Option Addr} {b1 cD cA cB cL : Nat} {D A : List Int} {i2 i3 i4 i5 : Int} {b6 b7 : Bool} {B : List Int} {L : List S115} {b10 : Bool} {f11 f12 f13 f14 : Int} {f15 : Bool}
end
def fltV (code f11 : Int) : Int := if code = 0 then f11 else if f11 = 0 then (if code = 2 then 3 else 2) else f11
def fltA (code f11 addr f13 : Int) : Int := if code = 0 then f13 else if f11 = 0 then addr else f13
def fltW (code f11 kind : Int) (f15 : Bool) : Bool := if code = 0 then f15 else if f11 = 0 then (kind == 2) else f15
section
variable {W : World} {base g : Nat} {AD AA AL : Option Addr} {b1 cD cA cB cL : Nat} {D A : List Int} {i2 i3 i4 i5 : Int} {b6 b7 : Bool} {B : List Int} {L : List S115} {b10 : Bool} {f11 f12 f13 f14 : Int} {f15 : Bool}
theorem SM.cells (hS : SM W base g AD AA AL b1 cD cA cB cL D A i2 i3 i4 i5 b6 b7 B L b10 f11 f12 f13 f14 f15) (W' : World) (v11 v12 v13 v14 : Int) (v15 : Bool) (hk : KeepBut W W' g none)
    (hW : W'.heap[g]? = some (.cells #[.slice AD D.length cD,.slice AA A.length cA,.int .i64 i2,.int .i64 i3,.int .i64 i4,.int .i64 i5,.bool b6,.bool b7,.slice (some ⟨b1,0,none⟩) B.length cB,.slice AL L.length cL,.bool b10,.int .i64 v11,.int .i64 v12,.int .i64 v13,.int .i64 v14,.bool v15] 88 (0,0))) :
    SM W' base g AD AA AL b1 cD cA cB cL D A i2 i3 i4 i5 b6 b7 B L b10 v11 v12 v13 v14 v15 := by
  obtain ⟨hg,hbg,hbw,hD,hA,hB,hL⟩ := hS
  exact ⟨hW,hbg,Nat.le_trans hbw hk.1,oF hD hg (by decide) hk,oF hA hg (by decide) hk,oF hB hg (by decide) hk,oF hL hg (by decide) hk⟩
end
section
variable {w w3 w4 w5 W : World} {base : Nat}
set_option maxHeartbeats 8000000 in
set_option maxRecDepth 100000 in
theorem SM.start (A0 : Option Addr) (c0 : Nat) (l0 : List Int) (A1 : Option Addr) (c1 : Nat) (l1 : List Int) (a2 a3 a4 a5 : Int) (a6 a7 : Bool) (A8 : Option Addr) (c8 : Nat) (l8 : List Int) (A9 : Option Addr) (c9 : Nat) (l9 : List S115) (a10 a11 : Bool) (r1 r2 : List Int) (r3 r4 r5 r6 : Int) (r7 r8 : Bool) (r9 : List Int) (r10 : List S115) (r11 r12 : Bool) (w : World)
    (hr0 : Kd.C (Kd.int .i64) w A0 l0.length l0) (hc0 : l0.length ≤ c0) (hr1 : Kd.C (Kd.int .i64) w A1 l1.length l1) (hc1 : l1.length ≤ c1) (hr8 : Kd.C (Kd.int .i64) w A8 l8.length l8) (hc8 : l8.length ≤ c8) (hr9 : Kd.C k115 w A9 l9.length l9) (hc9 : l9.length ≤ c9)
    (h : spec_l10Own.f l0 l1 a2 a3 a4 a5 a6 a7 l8 l9 a10 a11 = some (r1,r2,r3,r4,r5,r6,r7,r8,r9,r10,r11,r12)) (hp : 0 < r9.length) :
    Calls Try.prog 26 #[.agg #[.slice A0 l0.length c0,.slice A1 l1.length c1,.int .i64 a2,.int .i64 a3,.int .i64 a4,.int .i64 a5,.bool a6,.bool a7,.slice A8 l8.length c8,.slice A9 l9.length c9,.bool a10,.bool a11]] w fun e w' => ∃ g AD AA AL b1 cD cA cB cL,e = .returned (.pointer (some ⟨g,0,none⟩)) ∧
      SM w' w.heap.size g AD AA AL b1 cD cA cB cL r1 r2 r3 r4 r5 r6 r7 r8 r9 r10 r11 0 0 0 0 false ∧ w.heap.size ≤ g ∧ Below w.heap.size w w' := by
  have hu29 := Try.underlying36
  have hu24 := Try.underlying31
  have hu27 := Try.underlying34
  have hu123 := Try.underlying88
  have HB := aS (Below.refl w.heap.size w)
  go_enter Try.func26,Try.ntmps26
  go_wp2_with (first | ((with_reducible refine gD 1 rfl ?_);refine bX (w := w) #[.slice A0 l0.length c0,.slice A1 l1.length c1,.int .i64 a2,.int .i64 a3,.int .i64 a4,.int .i64 a5,.bool a6,.bool a7,.slice A8 l8.length c8,.slice A9 l9.length c9,.bool a10,.bool a11] 36 ?_;clear HB;intro ga w2 HB BKa GWa;refine zz12 BKa.out ?_;intros) | ((with_reducible refine gC 56 rfl ?_);refine gN Try.func56 #[.agg #[.slice A0 l0.length c0,.slice A1 l1.length c1,.int .i64 a2,.int .i64 a3,.int .i64 a4,.int .i64 a5,.bool a6,.bool a7,.slice A8 l8.length c8,.slice A9 l9.length c9,.bool a10,.bool a11]] ?_;(with_reducible refine (spec_l10Own.calls _ _ l0 _ _ l1 a2 a3 a4 a5 a6 a7 _ _ l8 _ _ l9 a10 a11 r1 r2 r3 r4 r5 r6 r7 r8 r9 r10 r11 r12 _ ?s1 hc0 ?s2 hc1 ?s3 hc8 ?s4 hc9 h).mono ?_);(case s1 => exact oC hr0);(case s2 => exact oC hr1);(case s3 => exact oC hr8);(case s4 => exact oC hr9);rintro e w3 ⟨v0,v1,v8,v9,rfl,ho0,ho1,ho8,ho9,hb3⟩;refine ⟨_,rfl,?_⟩;have HB3 := aS (xL hb3 : Below w.heap.size w w3);have hle := below_size HB.out;replace ho0 := Kd.R_lower ho0 hle;replace ho1 := Kd.R_lower ho1 hle;replace ho8 := Kd.R_lower ho8 hle;replace ho9 := Kd.R_lower ho9 hle;obtain ⟨AD,cD,rfl⟩ := Kd.R_slice ho0;obtain ⟨AA,cA,rfl⟩ := Kd.R_slice ho1;obtain ⟨AL,cL,rfl⟩ := Kd.R_slice ho9;obtain ⟨b1,cB,rfl,-⟩ := Kd.R_form ho8 hp;clear HB BKa;have HB := HB3;clear HB3) | ((with_reducible refine gD 3 rfl ?_);go_loud (refine bY #[.slice none 0 0,.slice none 0 0,.int .i64 0,.int .i64 0,.int .i64 0,.int .i64 0,.bool false,.bool false,.slice none 0 0,.slice none 0 0,.bool false,.bool false] 36 ?_;intro go_ hgo w4 hbo hb4;have GE := xG hgo HB;have HB4 := aS (xL hb4 : Below w.heap.size w w4);clear HB;have HB := HB4;clear HB4;have GE' := aS GE;clear hgo;refine zz12 hbo ?_;intros)) | ((with_reducible refine gD 13 rfl ?_);go_loud (refine bY #[.slice AD r1.length cD,.slice AA r2.length cA,.int .i64 r3,.int .i64 r4,.int .i64 r5,.int .i64 r6,.bool r7,.bool r8,.slice (some ⟨b1,0,none⟩) r9.length cB,.slice AL r10.length cL,.bool r11,.int .i64 0,.int .i64 0,.int .i64 0,.int .i64 0,.bool false] 88 ?_;intro g hg w5 hbg hb5;have GEg := xG hg HB;have HB5 := aS (xL hb5 : Below w.heap.size w w5);clear hg)))
  go_ret
  refine ⟨g,AD,AA,AL,b1,cD,cA,cB,cL,rfl,⟨hbg,GEg,below_size HB5.out,?_,?_,?_,?_⟩,GEg,HB5.out⟩
  · exact Kd.R_mono (Kd.R_below (oF (Kd.R_below ho0 hb4) hbo) hb5) (fun k hk => ⟨hk.1,fun e => hk.2 (by rw [e];rfl)⟩)
  · exact Kd.R_mono (Kd.R_below (oF (Kd.R_below ho1 hb4) hbo) hb5) (fun k hk => ⟨hk.1,fun e => hk.2 (by rw [e];rfl)⟩)
  · exact Kd.R_below (oF (Kd.R_below ho8 hb4) hbo) hb5
  · exact Kd.R_below (oF (Kd.R_below ho9 hb4) hbo) hb5
end
section
variable {W : World} {base g : Nat} {AD AA AL : Option Addr} {b1 cD cA cB cL : Nat} {D A : List Int} {i2 i3 i4 i5 : Int} {b6 b7 : Bool} {B : List Int} {L : List S115} {b10 : Bool} {f11 f12 f13 f14 : Int} {f15 : Bool}
theorem SM.box (hS : SM W base g AD AA AL b1 cD cA cB cL D A i2 i3 i4 i5 b6 b7 B L b10 f11 f12 f13 f14 f15) : W.heap[g]? = some (.cells #[.slice AD D.length cD,.slice AA A.length cA,.int .i64 i2,.int .i64 i3,.int .i64 i4,.int .i64 i5,.bool b6,.bool b7,.slice (some ⟨b1,0,none⟩) B.length cB,.slice AL L.length cL,.bool b10,.int .i64 f11,.int .i64 f12,.int .i64 f13,.int .i64 f14,.bool f15] 88 (0,0)) := hS.1
theorem SM.drewN (hS : SM W base g AD AA AL b1 cD cA cB cL D A i2 i3 i4 i5 b6 b7 B L b10 f11 f12 f13 f14 f15) (n : Nat) : SM (W.drewN n) base g AD AA AL b1 cD cA cB cL D A i2 i3 i4 i5 b6 b7 B L b10 f11 f12 f13 f14 f15 :=
  ⟨blk_drewN hS.1 n,hS.2.1,hS.2.2.1,Kd.R_drewN hS.2.2.2.1 n,Kd.R_drewN hS.2.2.2.2.1 n,Kd.R_drewN hS.2.2.2.2.2.1 n,Kd.R_drewN hS.2.2.2.2.2.2 n⟩
theorem FrM.drewN {W' : World} (h : FrM W W' g) (n : Nat) : FrM W (W'.drewN n) g := h
theorem SM.setA {bA : Nat} (hS : SM W base g AD (some ⟨bA,0,none⟩) AL b1 cD cA cB cL D A i2 i3 i4 i5 b6 b7 B L b10 f11 f12 f13 f14 f15) (i a : Int) :
    SM (W.setCell ⟨bA,i.toNat,none⟩ (.int .i64 a)) base g AD (some ⟨bA,0,none⟩) AL b1 cD cA cB cL D (A.set i.toNat a) i2 i3 i4 i5 b6 b7 B L b10 f11 f12 f13 f14 f15 ∧ Below base W (W.setCell ⟨bA,i.toNat,none⟩ (.int .i64 a)) ∧ FrM W (W.setCell ⟨bA,i.toNat,none⟩ (.int .i64 a)) g := by
  obtain ⟨hg,hbg,hbw,hD,hA,hB,hL⟩ := hS
  have hP := (Kd.R_putg hA i a).1
  have hbA := (Kd.R_bound hA).1 bA (by simp [Value.ownBlock])
  obtain ⟨cA',hcA⟩ := Kd.R_typed hA bA (by simp [Value.ownBlock])
  have hne : g ≠ bA := by rintro rfl;rw [hcA] at hg;injection hg with hg;injection hg with _ hg;exact absurd hg (by decide)
  have hst : ∀ k,k ≠ bA → (W.setCell ⟨bA,i.toNat,none⟩ (.int .i64 a)).heap[k]? = W.heap[k]? := fun k hk => Below.heap_setCell W ⟨bA,i.toNat,none⟩ _ k hk
  refine ⟨⟨?_,hbg,by simpa [World.setCell] using hbw,?_,by rw [List.length_set];exact hP,?_,?_⟩,bsC (Below.refl _ _) hbA.2.1,by simp [World.setCell],?_⟩
  · rw [hst g hne,hg,List.length_set]
  · rw [List.length_set];exact Kd.R_step hD (fun k hk _ => hst k (fun e => hk.1 (by rw [e];rfl)))
  · rw [List.length_set];exact Kd.R_step hB (fun k hk _ => hst k (fun e => hk.2 (by rw [e];rfl)))
  · exact oF hL hcA (by decide)
  · intro k cells t a1 a2 a3 a4
    refine (hst k ?_).trans a4
    rintro rfl;rw [hcA] at a4;injection a4 with a4;injection a4 with _ a4;exact a2 a4.symm
theorem SM.formA (hS : SM W base g AD AA AL b1 cD cA cB cL D A i2 i3 i4 i5 b6 b7 B L b10 f11 f12 f13 f14 f15) (h : 0 < A.length) : ∃ bA,AA = some ⟨bA,0,none⟩ := by
  obtain ⟨gA,cap,e,-⟩ := Kd.R_form hS.2.2.2.2.1 h
  injection e with e
  exact ⟨gA,e⟩
theorem SM.cellA {bA : Nat} (hS : SM W base g AD (some ⟨bA,0,none⟩) AL b1 cD cA cB cL D A i2 i3 i4 i5 b6 b7 B L b10 f11 f12 f13 f14 f15) (i : Int) (h0 : 0 ≤ i) (h : i < A.length) : W.cell? ⟨bA,i.toNat,none⟩ = some (.int .i64 (rd A i)) ∧ W.frozen? ⟨bA,i.toNat,none⟩ = false ∧ g ≠ bA := by
  obtain ⟨x,y⟩ := Kd.R_celln 0 hS.2.2.2.2.1 i h0 h
  obtain ⟨cA',hcA⟩ := Kd.R_typed hS.2.2.2.2.1 bA (by simp [Value.ownBlock])
  refine ⟨x,y,?_⟩
  rintro rfl;have hg := hS.1;rw [hcA] at hg;injection hg with hg;injection hg with _ hg;exact absurd hg (by decide)
abbrev pushAt (A : List Int) : Int := Go.bits .and .i64 (wrap64 (rd A 3 - 2)) 65535
def setA3 (A : List Int) (f : Int) (a : Int) : List Int := if f = 0 then A.set 3 a else A
end
def spec_pop.T : Bool × List (List Nat × List Nat) := (true,[([],[]),([0],[0]),([1],[1]),([2],[2]),([3],[3]),([],[]),([5],[5]),([6],[6]),([7],[7]),([8],[8]),([9],[9]),([10],[10]),([11],[11]),([12],[12]),([4,0,1,2,3,4,5,6,7,8,9,10,11,12,13],[4]),([14,13,0,1,2,3,4,5,6,7,8,9,10,11,12,13],[13,14])])
def spec_pop.W : List Nat := [0,1,3,7,15,0,32,96,224,480,992,2016,4064,8160,16383,32767]
theorem spec_pop.tab : rtab .any (opsOf Try.f27 3) = spec_pop.T := by kernel_rfl
theorem spec_pop.bits : waitsOk spec_pop.T.2 spec_pop.W = true := by kernel_rfl
section
variable {W : World} {base g : Nat} {AD AA AL : Option Addr} {b1 cD cA cB cL : Nat} {D A : List Int} {i2 i3 i4 i5 : Int} {b6 b7 : Bool} {B : List Int} {L : List S115} {b10 : Bool} {f11 f12 f13 f14 : Int} {f15 : Bool}
theorem SM.drew (hS : SM W base g AD AA AL b1 cD cA cB cL D A i2 i3 i4 i5 b6 b7 B L b10 f11 f12 f13 f14 f15) : SM W.drew base g AD AA AL b1 cD cA cB cL D A i2 i3 i4 i5 b6 b7 B L b10 f11 f12 f13 f14 f15 :=
  ⟨blk_drew hS.1,hS.2.1,hS.2.2.1,Kd.R_drew hS.2.2.2.1,Kd.R_drew hS.2.2.2.2.1,Kd.R_drew hS.2.2.2.2.2.1,Kd.R_drew hS.2.2.2.2.2.2⟩
end
section
variable {W : World} {base g : Nat} {AD AA AL : Option Addr} {b1 cD cA cB cL : Nat} {D A : List Int} {i2 i3 i4 i5 : Int} {b6 b7 : Bool} {B : List Int} {L : List S115} {b10 : Bool} {f11 f12 f13 f14 : Int} {f15 : Bool}
theorem SM.reads (hS : SM W base g AD AA AL b1 cD cA cB cL D A i2 i3 i4 i5 b6 b7 B L b10 f11 f12 f13 f14 f15) : (Kd.C (Kd.int .i64) W AD D.length D ∧ D.length ≤ cD) ∧ (Kd.C (Kd.int .i64) W AA A.length A ∧ A.length ≤ cA) ∧ (Kd.C (Kd.int .i64) W (some ⟨b1,0,none⟩) B.length B ∧ B.length ≤ cB) ∧ (Kd.C k115 W AL L.length L ∧ L.length ≤ cL) := by
  obtain ⟨hg,hbg,hbw,hD,hA,hB,hL⟩ := hS
  exact ⟨⟨(Kd.R_reads' hD).2.2,(Kd.R_reads' hD).2.1⟩,⟨(Kd.R_reads' hA).2.2,(Kd.R_reads' hA).2.1⟩,⟨(Kd.R_reads' hB).2.2,(Kd.R_reads' hB).2.1⟩,⟨(Kd.R_reads' hL).2.2,(Kd.R_reads' hL).2.1⟩⟩
theorem SM.below {W' : World} (hS : SM W base g AD AA AL b1 cD cA cB cL D A i2 i3 i4 i5 b6 b7 B L b10 f11 f12 f13 f14 f15) (h : Below W.heap.size W W') : SM W' base g AD AA AL b1 cD cA cB cL D A i2 i3 i4 i5 b6 b7 B L b10 f11 f12 f13 f14 f15 :=
  ⟨blk_below hS.1 h,hS.2.1,Nat.le_trans hS.2.2.1 h.size,Kd.R_below hS.2.2.2.1 h,Kd.R_below hS.2.2.2.2.1 h,Kd.R_below hS.2.2.2.2.2.1 h,Kd.R_below hS.2.2.2.2.2.2 h⟩
end
theorem genWorld {P : Program} {c : Code} {Q : Exit → Act → World → Prop} {a : Act} {W : World} (F : World → Prop) (hF : F W) (h : ∀ W',F W' → c.wp P Q a W') : c.wp P Q a W := h W hF
def Cell12 (W : World) (g t : Nat) (v0 v1 v2 v3 v4 v5 v6 v7 v8 v9 v10 v11 : Value) : Prop := W.heap[g]? = some (.cells #[v0,v1,v2,v3,v4,v5,v6,v7,v8,v9,v10,v11] t (0,0))
theorem below_low {b b' : Nat} {w W : World} (h : Below b w W) (hl : b' ≤ b) : Below b' w W := ⟨h.os,h.tape,h.output,h.size,fun i hi => h.block i (Nat.lt_of_lt_of_le hi hl)⟩
def Ints (W W' : World) (b1 : Nat) (AA : Option Addr) : Prop := W.heap.size ≤ W'.heap.size ∧ ∀ k cells,k ≠ b1 → (∀ a,AA = some a → k ≠ a.block) → W.heap[k]? = some (.cells cells 3 (0,0)) → W'.heap[k]? = some (.cells cells 3 (0,0))
section
variable {W W' W2 : World} {b1 g : Nat} {AA : Option Addr}
theorem Ints.refl : Ints W W b1 AA := ⟨Nat.le_refl _,fun _ _ _ _ h => h⟩
theorem Ints.trans (h : Ints W W' b1 AA) (h2 : Ints W' W2 b1 AA) : Ints W W2 b1 AA := ⟨Nat.le_trans h.1 h2.1,fun k c a b e => h2.2 k c a b (h.2 k c a b e)⟩
theorem Ints.below (h : Below W.heap.size W W') : Ints W W' b1 AA := ⟨h.size,fun _ _ _ _ e => blk_below e h⟩
theorem Ints.keep {cs : Array Value} {t : Nat} (h : Ints W W' b1 AA) (hg : W'.heap[g]? = some (.cells cs t (0,0))) (ht : t ≠ 3) (hk : KeepBut W' W2 g none) : Ints W W2 b1 AA := by
  refine ⟨Nat.le_trans h.1 hk.1,fun k c a b e => ?_⟩
  have e2 := h.2 k c a b e
  refine (hk.2 k (blk_lt e2) ?_ (by simp)).trans e2
  rintro rfl;rw [hg] at e2;injection e2 with e2;injection e2 with _ e2;exact ht e2
theorem Ints.R {base : Nat} {ok : Nat → Prop} {v : Value} {xs : List Int} (h : Ints W W' b1 AA) (hr : Kd.R (Kd.int .i64) 3 W base ok v xs) (hk : ∀ k,ok k → base ≤ k → k ≠ b1 ∧ ∀ a,AA = some a → k ≠ a.block) : Kd.R (Kd.int .i64) 3 W' base ok v xs := by
  refine Kd.R_mono (Kd.R_step (Kd.R_bound hr) (fun k hk' hlt => ?_)) (fun _ hk' => hk'.1)
  obtain ⟨ho,hb,_,q,hq,cells,hc⟩ := hk'
  have e : q = 3 := by simpa [show (Kd.int IntKind.i64).E = [] from rfl] using hq
  subst e
  exact (h.2 k cells (hk k ho hb).1 (hk k ho hb).2 hc).trans hc.symm
end
theorem genWorldA {P : Program} {md : Region.Mode} {ops : Array Oper} {Q : Exit → Act → World → Prop} {S : World → Prop} {ds : List Nat} {n : Nat} {l : Array Bool} {a : Act} {W : World} (F : World → Prop) (hF : F W) (h : ∀ W',F W' → wpAnyLast P md ops Q S ds n l a W') : wpAnyLast P md ops Q S ds n l a W := h W hF

end Go.Proofs.Ythlhapafipikmaa.E
