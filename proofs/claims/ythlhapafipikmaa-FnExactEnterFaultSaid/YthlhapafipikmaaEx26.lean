-- Made by this session's program gprint.py out of the translation. Not trusted: Lean checks it.
import Derived.Test.YthlhapafipikmaaEx0
import Derived.Test.YthlhapafipikmaaEx13
import Derived.Test.YthlhapafipikmaaEx23
namespace Go.Proofs.Ythlhapafipikmaa.E
open Go.RowKit Go.Proofs.YthlhapafipikmaaW.PrintWords Go.Proofs.YthlhapafipikmaaW.PrintLast Go.Proofs.YthlhapafipikmaaW.PrintMore
attribute [local go_sem] max2_int min2_int max_two min_two max_three min_three max_four min_four   -- for this text's walks alone
set_option linter.unusedVariables false
set_option linter.unusedSimpArgs false

/-! ### impl_Bus_touch: function 64 (by hand) -/
abbrev ichV (addr : Int) (B : List Int) : Int := Go.bits .or .i64 (wrap64 ((rd B addr) * 256)) (rd B (addr + 1))
def ichR (kind code addr : Int) (B : List Int) : Int := if code = 0 ∧ kind ≠ 2 then ichV addr B else 0
def ichT (kind code value addr : Int) (B : List Int) : Int := if kind = 2 then value else if code = 0 then ichV addr B else 0
def ichM (kind code value addr : Int) (B : List Int) : List Int := if kind = 2 ∧ code = 0 then (B.set addr.toNat (value / 256)).set (addr + 1).toNat (Go.bits .and .i64 value 255) else B
def ichL (kind code value addr : Int) (B : List Int) (L : List S115) : List S115 := if L.length < 400 ∧ (kind ≠ 3 ∨ code ≠ 0) then L ++ [⟨kind,2,addr,ichT kind code value addr B,code⟩] else L
set_option maxHeartbeats 8000000 in
set_option maxRecDepth 100000 in
theorem impl_at.T (addr : Int) (B : List Int) (w : World) {base : Nat} (g p b1 cp1 : Nat) (okB : Nat → Prop) (hc0 : w.cell? ⟨g,p,none⟩ = some (.slice (some ⟨b1,0,none⟩) B.length cp1))
    (hB : Kd.R (Kd.int .i64) 3 w base okB (.slice (some ⟨b1,0,none⟩) B.length cp1) B) (ha : 0 ≤ addr) (hr : addr + 1 < (B.length : Int)) (ha2 : addr ≤ 65535 := by omega) :
    Calls Try.prog 106 #[.pointer (some ⟨g,p,none⟩),.int .i64 2,.int .i64 addr] w fun e w' => e = .returned (.int .i64 (ichV addr B)) ∧ Drawn0 w w' := by
  have hu27 := Try.underlying34
  have hw1 : IntKind.i64.wrap (addr + 1) = addr + 1 := by rw [i64_w];unfold wrap64;omega
  have p0 : (0 ≤ addr) = True := eq_true ha
  have p1 : (0 ≤ addr + 1) = True := eq_true (by omega)
  have q0 : (addr < (B.length : Int)) = True := eq_true (by omega)
  have q1 : (addr + 1 < (B.length : Int)) = True := eq_true hr
  obtain ⟨hx0,hf0⟩ : w.cell? ⟨b1,addr.toNat,none⟩ = some (.int .i64 (rd B addr)) ∧ _ := Kd.R_celln 0 hB addr ha (by omega)
  obtain ⟨hx1,hf1⟩ : w.cell? ⟨b1,(addr + 1).toNat,none⟩ = some (.int .i64 (rd B (addr + 1))) ∧ _ := Kd.R_celln 0 hB (addr + 1) (by omega) (by omega)
  go_enter Try.func106,Try.ntmps106
  go_wp2
  refine start_ (n := 18) (S := fun w' => w'.cell? ⟨g,p,none⟩ = some (.slice (some ⟨b1,0,none⟩) B.length cp1) ∧ w'.cell? ⟨b1,addr.toNat,none⟩ = some (.int .i64 (rd B addr)) ∧ w'.cell? ⟨b1,(addr + 1).toNat,none⟩ = some (.int .i64 (rd B (addr + 1)))) (ds := []) (bA 18 0) (by kernel_rfl) rfl rfl ⟨hc0,hx0,hx1⟩ (fun hHeld => ?_)
  refine pB 0 16 1 ?_;refine pB 1 17 3 ?_;refine pB 2 18 7 ?_;refine pB 4 20 23 ?_;refine pB 8 24 279 ?_;refine pB 9 25 791 ?_;refine pB 10 26 1815 ?_;refine pB 12 28 5911 ?_;refine pB 13 29 14103 ?_;refine tB 3 19 14111 ?_;refine pB 5 21 14143 ?_;refine tB 6 22 14207 ?_;refine pB 7 23 14335 ?_;refine tB 11 27 16383 ?_;refine pB 14 30 32767 ?_;refine tB 15 31 65535 ?_;refine pB 16 32 131071 ?_;refine pB 17 6 262143 ?_
  refine done_ (by kernel_rfl) ?_
  go_wp2
  go_ret
  exact ⟨rfl,by repeat (first | exact Drawn0.refl _ | apply Drawn0.step)⟩
set_option maxHeartbeats 8000000 in
set_option maxRecDepth 100000 in
theorem impl_put.T (addr value : Int) (B : List Int) (w : World) {base : Nat} (g p b1 cp1 : Nat) (okB : Nat → Prop) (hc0 : w.cell? ⟨g,p,none⟩ = some (.slice (some ⟨b1,0,none⟩) B.length cp1))
    (hB : Kd.R (Kd.int .i64) 3 w base okB (.slice (some ⟨b1,0,none⟩) B.length cp1) B) (hn : b1 ≠ g) (ha : 0 ≤ addr) (hr : addr + 1 < (B.length : Int)) (ha2 : addr ≤ 65535 := by omega) :
    Calls Try.prog 105 #[.pointer (some ⟨g,p,none⟩),.int .i64 2,.int .i64 addr,.int .i64 value] w fun e w' => (∃ u,e = .returned u) ∧ w' = (w.setCell ⟨b1,addr.toNat,none⟩ (.int .i64 (value / 256))).setCell ⟨b1,(addr + 1).toNat,none⟩ (.int .i64 (Go.bits .and .i64 value 255)) := by
  have hu27 := Try.underlying34
  have hn' : g ≠ b1 := Ne.symm hn
  have hw1 : IntKind.i64.wrap (addr + 1) = addr + 1 := by rw [i64_w];unfold wrap64;omega
  have hne3 : addr.toNat ≠ (addr + 1).toNat := by omega
  have hne4 : (addr + 1).toNat ≠ addr.toNat := by omega
  have p0 : (0 ≤ addr) = True := eq_true ha
  have p1 : (0 ≤ addr + 1) = True := eq_true (by omega)
  have q0 : (addr < (B.length : Int)) = True := eq_true (by omega)
  have q1 : (addr + 1 < (B.length : Int)) = True := eq_true hr
  obtain ⟨hx0,hf0⟩ : w.cell? ⟨b1,addr.toNat,none⟩ = some (.int .i64 (rd B addr)) ∧ _ := Kd.R_celln 0 hB addr ha (by omega)
  obtain ⟨hx1,hf1⟩ : w.cell? ⟨b1,(addr + 1).toNat,none⟩ = some (.int .i64 (rd B (addr + 1))) ∧ _ := Kd.R_celln 0 hB (addr + 1) (by omega) (by omega)
  go_enter Try.func105,Try.ntmps105
  go_wp2
  go_end0
  exact ⟨⟨_,rfl⟩,rfl⟩
set_option maxHeartbeats 8000000 in
set_option maxRecDepth 100000 in
theorem impl_touch.W0 (kk : Nat) (kind addr value code : Int) (B : List Int) (L : List S115) (w : World) (base g p t cp1 cp2 : Nat) (cs : Array Value) (b1 : Nat) (A2 : Option Addr) (okB okL : Nat → Prop)
    (hg : w.heap[g]? = some (.cells cs t (0,0))) (h0 : cs[p]? = some (.slice (some ⟨b1,0,none⟩) B.length cp1)) (h1 : cs[p + 1]? = some (.slice A2 L.length cp2)) (ht : t ≠ 3 ∧ t ≠ 115) (hbg : base ≤ g) (hbw : base ≤ w.heap.size)
    (hB : Kd.R (Kd.int .i64) 3 w base okB (.slice (some ⟨b1,0,none⟩) B.length cp1) B) (hL : Kd.R k115 115 w base okL (.slice A2 L.length cp2) L)
    (hk : impl_codeOf.f kk kind 2 addr = some code) (ha : 0 ≤ addr) (ha2 : addr ≤ 65535) (hk2 : kind = 2) (hc : code = 0) (hr : addr + 1 < (B.length : Int)) :
    Calls Try.prog 64 #[.pointer (some ⟨g,p,none⟩),.int .i64 kind,.int .i64 2,.int .i64 addr,.int .i64 value] w fun e w' => ∃ vL',e = .returned (.tuple #[.int .i64 (ichR kind code addr B),.int .i64 code]) ∧
      w'.heap[g]? = some (.cells (cs.setIfInBounds (p + 1) vL') t (0,0)) ∧ Kd.R (Kd.int .i64) 3 w' base okB (.slice (some ⟨b1,0,none⟩) B.length cp1) (ichM kind code value addr B) ∧
      Kd.R k115 115 w' base (fun k => okL k ∨ w.heap.size ≤ k) vL' (ichL kind code value addr B L) ∧ Below base w w' ∧ KeepX w w' g b1 (Value.slice A2 L.length cp2).ownBlock := by
  subst hk2 hc
  have hu27 := Try.underlying34
  have hu109 := Try.underlying115
  have hc0 : w.cell? ⟨g,p,none⟩ = some (.slice (some ⟨b1,0,none⟩) B.length cp1) := (blk_cell hg p).trans h0
  have hc1 : w.cell? ⟨g,p + 1,none⟩ = some (.slice A2 L.length cp2) := (blk_cell hg (p + 1)).trans h1
  have hne : some g ≠ (Value.slice (some ⟨b1,0,none⟩) B.length cp1).ownBlock := Kd.R_ne hB hg (Ne.symm ht.1)
  have hn1 : g ≠ b1 := fun e => hne (by simp [Value.ownBlock,e])
  have hn2 : b1 ≠ g := Ne.symm hn1
  obtain ⟨cells1,hbt⟩ := Kd.R_typed hB b1 (by simp [Value.ownBlock])
  have hb1 : base ≤ b1 := ((Kd.R_bound hB).1 b1 (by simp [Value.ownBlock])).2.1
  by_cases c4 : L.length < 400
  · have c4b : decide ((L.length : Int) < 400) = true := decide_eq_true (by omega)
    go_enter Try.func64,Try.ntmps64
    go_wp2_with (first | (go_at_call 104;(with_reducible refine (impl_codeOf.calls kk _ _ addr _ _ hk).mono ?_);rintro e w' ⟨rfl,⟨nd,rfl⟩⟩) | (go_at_call 105;refine (impl_put.T addr value B (w.drewN nd) g p b1 cp1 _ hc0 (Kd.R_drewN hB nd) hn2 ha hr).mono ?_;rintro e w' ⟨⟨u,rfl⟩,rfl⟩) | ((with_reducible refine gate_builtin (b := .append) (xs := #[.tmp 57,.tmp 64]) rfl ?_);go_loud (at_builtin;refine Kd.R_append k115 (w0 := w) base rfl (.tmp 57) (.tmp 64) 32 115 (.agg #[(.int .i64 0),(.int .i64 0),(.int .i64 0),(.int .i64 0),(.int .i64 0)]) 40 rfl Try.underlying32 info115 rfl (by decide) (by omega) (.slice A2 L.length cp2) L (⟨2,2,addr,value,0⟩ : S115) [.int .i64 2,.int .i64 2,.int .i64 addr,.int .i64 value,.int .i64 0] (fun k => okL k ∨ w.heap.size ≤ k) (fun _ => False) rfl ?aX ?aP (fun _ hk => hk.elim) ?aF ?aO ?aB ?aS ?aL ?_;(case aX => first | rfl | (simp [World.setCell,World.drewN];rfl));(case aP => exact k115_mkM _ _ _ (⟨2,2,addr,value,0⟩ : S115));(case aF => exact fun k hk => .inr (by simpa [World.setCell,World.drewN] using hk));(case aO => exact Kd.R_mono (oF hL hbt) (fun _ h => .inl h));(case aB => repeat (with_reducible first | exact Below.refl _ _ | apply pw_below_drewN | refine bsC ?_ hb1));(case aS => simpa [World.setCell,World.drewN] using hbw);(case aL => exact zLog c4);intro v1 w1 ho hb hgr hat;obtain ⟨Ao,co,rfl⟩ := Kd.R_slice ho;have hg1 : w1.heap[g]? = some (.cells cs t (0,0)) := (blk_grown (oG hg hn1) hgr (Kd.R_ne hL hg (Ne.symm ht.2)));have hc2 := (blk_cell hg1 p).trans h0;have hc3 := (blk_cell hg1 (p + 1)).trans h1;have hf3 := blk_frozen hg1 (p + 1))))
    refine bodyPost_ret (results_list (rs := [.tmp 10,.tmp 11]) (vs := [_,_]) rfl (by simp) (.tmp (.tmp .nil))) rfl ?_
    exact ⟨_,by simp [ichR],by simpa [ichM,ichL,ichT,c4] using touch1 (p := p) hg ht hbg hB hL (by repeat (with_reducible first | exact keep_refl _ _ | apply keep_put | apply keep_alloc | apply keep_drewN | apply keep_drew)) (Kd.R_putg (Kd.R_putg (Kd.R_drewN hB nd) addr (value / 256)).1 (addr + 1) (Go.bits .and .i64 value 255)).1 ho hb hgr⟩
  · have c4b : decide ((L.length : Int) < 400) = false := decide_eq_false (by omega)
    go_enter Try.func64,Try.ntmps64
    go_wp2_with (first | (go_at_call 104;(with_reducible refine (impl_codeOf.calls kk _ _ addr _ _ hk).mono ?_);rintro e w' ⟨rfl,⟨nd,rfl⟩⟩) | (go_at_call 105;refine (impl_put.T addr value B (w.drewN nd) g p b1 cp1 _ hc0 (Kd.R_drewN hB nd) hn2 ha hr).mono ?_;rintro e w' ⟨⟨u,rfl⟩,rfl⟩))
    refine bodyPost_ret (results_list (rs := [.tmp 10,.tmp 11]) (vs := [_,_]) rfl (by simp) (.tmp (.tmp .nil))) rfl ?_
    exact ⟨_,by simp [ichR],by simpa [ichM,ichL,c4] using touch0 (p := p) hg h1 ht hB hL (by repeat (with_reducible first | exact keep_refl _ _ | apply keep_put | apply keep_alloc | apply keep_drewN | apply keep_drew)) (by repeat (with_reducible first | exact Below.refl _ _ | apply pw_below_drewN | refine bsC ?_ hb1)) (Kd.R_putg (Kd.R_putg (Kd.R_drewN hB nd) addr (value / 256)).1 (addr + 1) (Go.bits .and .i64 value 255)).1⟩
set_option maxHeartbeats 8000000 in
set_option maxRecDepth 100000 in
theorem impl_touch.R0 (kk : Nat) (kind addr value code : Int) (B : List Int) (L : List S115) (w : World) (base g p t cp1 cp2 : Nat) (cs : Array Value) (b1 : Nat) (A2 : Option Addr) (okB okL : Nat → Prop)
    (hg : w.heap[g]? = some (.cells cs t (0,0))) (h0 : cs[p]? = some (.slice (some ⟨b1,0,none⟩) B.length cp1)) (h1 : cs[p + 1]? = some (.slice A2 L.length cp2)) (ht : t ≠ 3 ∧ t ≠ 115) (hbg : base ≤ g) (hbw : base ≤ w.heap.size)
    (hB : Kd.R (Kd.int .i64) 3 w base okB (.slice (some ⟨b1,0,none⟩) B.length cp1) B) (hL : Kd.R k115 115 w base okL (.slice A2 L.length cp2) L)
    (hk : impl_codeOf.f kk kind 2 addr = some code) (ha : 0 ≤ addr) (ha2 : addr ≤ 65535) (hk2 : kind = 1) (hc : code = 0) (hr : addr + 1 < (B.length : Int)) :
    Calls Try.prog 64 #[.pointer (some ⟨g,p,none⟩),.int .i64 kind,.int .i64 2,.int .i64 addr,.int .i64 value] w fun e w' => ∃ vL',e = .returned (.tuple #[.int .i64 (ichR kind code addr B),.int .i64 code]) ∧
      w'.heap[g]? = some (.cells (cs.setIfInBounds (p + 1) vL') t (0,0)) ∧ Kd.R (Kd.int .i64) 3 w' base okB (.slice (some ⟨b1,0,none⟩) B.length cp1) (ichM kind code value addr B) ∧
      Kd.R k115 115 w' base (fun k => okL k ∨ w.heap.size ≤ k) vL' (ichL kind code value addr B L) ∧ Below base w w' ∧ KeepX w w' g b1 (Value.slice A2 L.length cp2).ownBlock := by
  subst hk2 hc
  have hu27 := Try.underlying34
  have hu109 := Try.underlying115
  have hc0 : w.cell? ⟨g,p,none⟩ = some (.slice (some ⟨b1,0,none⟩) B.length cp1) := (blk_cell hg p).trans h0
  have hc1 : w.cell? ⟨g,p + 1,none⟩ = some (.slice A2 L.length cp2) := (blk_cell hg (p + 1)).trans h1
  have hne : some g ≠ (Value.slice (some ⟨b1,0,none⟩) B.length cp1).ownBlock := Kd.R_ne hB hg (Ne.symm ht.1)
  have hn1 : g ≠ b1 := fun e => hne (by simp [Value.ownBlock,e])
  have hn2 : b1 ≠ g := Ne.symm hn1
  obtain ⟨cells1,hbt⟩ := Kd.R_typed hB b1 (by simp [Value.ownBlock])
  have hb1 : base ≤ b1 := ((Kd.R_bound hB).1 b1 (by simp [Value.ownBlock])).2.1
  by_cases c4 : L.length < 400
  · have c4b : decide ((L.length : Int) < 400) = true := decide_eq_true (by omega)
    go_enter Try.func64,Try.ntmps64
    go_wp2_with (first | (go_at_call 104;(with_reducible refine (impl_codeOf.calls kk _ _ addr _ _ hk).mono ?_);rintro e w' ⟨rfl,⟨nd,rfl⟩⟩) | (go_at_call 106;go_loud (refine (impl_at.T addr B (w.drewN nd) g p b1 cp1 _ hc0 (Kd.R_drewN hB nd) ha hr).mono ?_;rintro e w' ⟨rfl,⟨nd2,rfl⟩⟩)) | ((with_reducible refine gate_builtin (b := .append) (xs := #[.tmp 57,.tmp 64]) rfl ?_);go_loud (at_builtin;refine Kd.R_append k115 (w0 := w) base rfl (.tmp 57) (.tmp 64) 32 115 (.agg #[(.int .i64 0),(.int .i64 0),(.int .i64 0),(.int .i64 0),(.int .i64 0)]) 40 rfl Try.underlying32 info115 rfl (by decide) (by omega) (.slice A2 L.length cp2) L (⟨1,2,addr,(ichV addr B),0⟩ : S115) [.int .i64 1,.int .i64 2,.int .i64 addr,.int .i64 (ichV addr B),.int .i64 0] (fun k => okL k ∨ w.heap.size ≤ k) (fun _ => False) rfl ?aX ?aP (fun _ hk => hk.elim) ?aF ?aO ?aB ?aS ?aL ?_;(case aX => first | rfl | (simp [World.setCell,World.drewN];rfl));(case aP => exact k115_mkM _ _ _ (⟨1,2,addr,(ichV addr B),0⟩ : S115));(case aF => exact fun k hk => .inr (by simpa [World.setCell,World.drewN] using hk));(case aO => exact Kd.R_mono (oF hL hbt) (fun _ h => .inl h));(case aB => repeat (with_reducible first | exact Below.refl _ _ | apply pw_below_drewN | refine bsC ?_ hb1));(case aS => simpa [World.setCell,World.drewN] using hbw);(case aL => exact zLog c4);intro v1 w1 ho hb hgr hat;obtain ⟨Ao,co,rfl⟩ := Kd.R_slice ho;have hg1 : w1.heap[g]? = some (.cells cs t (0,0)) := (blk_grown (oG hg hn1) hgr (Kd.R_ne hL hg (Ne.symm ht.2)));have hc2 := (blk_cell hg1 p).trans h0;have hc3 := (blk_cell hg1 (p + 1)).trans h1;have hf3 := blk_frozen hg1 (p + 1))))
    refine bodyPost_ret (results_list (rs := [.tmp 10,.tmp 11]) (vs := [_,_]) rfl (by simp) (.tmp (.tmp .nil))) rfl ?_
    exact ⟨_,by simp [ichR],by simpa [ichM,ichL,ichT,c4] using touch1 (p := p) hg ht hbg hB hL (by repeat (with_reducible first | exact keep_refl _ _ | apply keep_put | apply keep_alloc | apply keep_drewN | apply keep_drew)) (Kd.R_drewN hB (nd + nd2)) ho hb hgr⟩
  · have c4b : decide ((L.length : Int) < 400) = false := decide_eq_false (by omega)
    go_enter Try.func64,Try.ntmps64
    go_wp2_with (first | (go_at_call 104;(with_reducible refine (impl_codeOf.calls kk _ _ addr _ _ hk).mono ?_);rintro e w' ⟨rfl,⟨nd,rfl⟩⟩) | (go_at_call 106;go_loud (refine (impl_at.T addr B (w.drewN nd) g p b1 cp1 _ hc0 (Kd.R_drewN hB nd) ha hr).mono ?_;rintro e w' ⟨rfl,⟨nd2,rfl⟩⟩)))
    refine bodyPost_ret (results_list (rs := [.tmp 10,.tmp 11]) (vs := [_,_]) rfl (by simp) (.tmp (.tmp .nil))) rfl ?_
    exact ⟨_,by simp [ichR],by simpa [ichM,ichL,c4] using touch0 (p := p) hg h1 ht hB hL (by repeat (with_reducible first | exact keep_refl _ _ | apply keep_put | apply keep_alloc | apply keep_drewN | apply keep_drew)) (by repeat (with_reducible first | exact Below.refl _ _ | apply pw_below_drewN | refine bsC ?_ hb1)) (Kd.R_drewN hB (nd + nd2))⟩
set_option maxHeartbeats 8000000 in
set_option maxRecDepth 100000 in
theorem impl_touch.F0 (kk : Nat) (kind addr value code : Int) (B : List Int) (L : List S115) (w : World) (base g p t cp1 cp2 : Nat) (cs : Array Value) (b1 : Nat) (A2 : Option Addr) (okB okL : Nat → Prop)
    (hg : w.heap[g]? = some (.cells cs t (0,0))) (h0 : cs[p]? = some (.slice (some ⟨b1,0,none⟩) B.length cp1)) (h1 : cs[p + 1]? = some (.slice A2 L.length cp2)) (ht : t ≠ 3 ∧ t ≠ 115) (hbg : base ≤ g) (hbw : base ≤ w.heap.size)
    (hB : Kd.R (Kd.int .i64) 3 w base okB (.slice (some ⟨b1,0,none⟩) B.length cp1) B) (hL : Kd.R k115 115 w base okL (.slice A2 L.length cp2) L)
    (hk : impl_codeOf.f kk kind 2 addr = some code) (ha : 0 ≤ addr) (ha2 : addr ≤ 65535) (hk2 : kind = 3) (hc : code = 0) (hr : addr + 1 < (B.length : Int)) :
    Calls Try.prog 64 #[.pointer (some ⟨g,p,none⟩),.int .i64 kind,.int .i64 2,.int .i64 addr,.int .i64 value] w fun e w' => ∃ vL',e = .returned (.tuple #[.int .i64 (ichR kind code addr B),.int .i64 code]) ∧
      w'.heap[g]? = some (.cells (cs.setIfInBounds (p + 1) vL') t (0,0)) ∧ Kd.R (Kd.int .i64) 3 w' base okB (.slice (some ⟨b1,0,none⟩) B.length cp1) (ichM kind code value addr B) ∧
      Kd.R k115 115 w' base (fun k => okL k ∨ w.heap.size ≤ k) vL' (ichL kind code value addr B L) ∧ Below base w w' ∧ KeepX w w' g b1 (Value.slice A2 L.length cp2).ownBlock := by
  subst hk2 hc
  have hu27 := Try.underlying34
  have hu109 := Try.underlying115
  have hc0 : w.cell? ⟨g,p,none⟩ = some (.slice (some ⟨b1,0,none⟩) B.length cp1) := (blk_cell hg p).trans h0
  have hc1 : w.cell? ⟨g,p + 1,none⟩ = some (.slice A2 L.length cp2) := (blk_cell hg (p + 1)).trans h1
  have hne : some g ≠ (Value.slice (some ⟨b1,0,none⟩) B.length cp1).ownBlock := Kd.R_ne hB hg (Ne.symm ht.1)
  have hn1 : g ≠ b1 := fun e => hne (by simp [Value.ownBlock,e])
  have hn2 : b1 ≠ g := Ne.symm hn1
  obtain ⟨cells1,hbt⟩ := Kd.R_typed hB b1 (by simp [Value.ownBlock])
  have hb1 : base ≤ b1 := ((Kd.R_bound hB).1 b1 (by simp [Value.ownBlock])).2.1
  by_cases c4 : L.length < 400
  · have c4b : decide ((L.length : Int) < 400) = true := decide_eq_true (by omega)
    go_enter Try.func64,Try.ntmps64
    go_wp2_with (first | (go_at_call 104;(with_reducible refine (impl_codeOf.calls kk _ _ addr _ _ hk).mono ?_);rintro e w' ⟨rfl,⟨nd,rfl⟩⟩) | (go_at_call 106;go_loud (refine (impl_at.T addr B (w.drewN nd) g p b1 cp1 _ hc0 (Kd.R_drewN hB nd) ha hr).mono ?_;rintro e w' ⟨rfl,⟨nd2,rfl⟩⟩)))
    refine bodyPost_ret (results_list (rs := [.tmp 10,.tmp 11]) (vs := [_,_]) rfl (by simp) (.tmp (.tmp .nil))) rfl ?_
    exact ⟨_,by simp [ichR],by simpa [ichM,ichL] using touch0 (p := p) hg h1 ht hB hL (by repeat (with_reducible first | exact keep_refl _ _ | apply keep_put | apply keep_alloc | apply keep_drewN | apply keep_drew)) (by repeat (with_reducible first | exact Below.refl _ _ | apply pw_below_drewN | refine bsC ?_ hb1)) (Kd.R_drewN hB (nd + nd2))⟩
  · have c4b : decide ((L.length : Int) < 400) = false := decide_eq_false (by omega)
    go_enter Try.func64,Try.ntmps64
    go_wp2_with (first | (go_at_call 104;(with_reducible refine (impl_codeOf.calls kk _ _ addr _ _ hk).mono ?_);rintro e w' ⟨rfl,⟨nd,rfl⟩⟩) | (go_at_call 106;go_loud (refine (impl_at.T addr B (w.drewN nd) g p b1 cp1 _ hc0 (Kd.R_drewN hB nd) ha hr).mono ?_;rintro e w' ⟨rfl,⟨nd2,rfl⟩⟩)))
    refine bodyPost_ret (results_list (rs := [.tmp 10,.tmp 11]) (vs := [_,_]) rfl (by simp) (.tmp (.tmp .nil))) rfl ?_
    exact ⟨_,by simp [ichR],by simpa [ichM,ichL] using touch0 (p := p) hg h1 ht hB hL (by repeat (with_reducible first | exact keep_refl _ _ | apply keep_put | apply keep_alloc | apply keep_drewN | apply keep_drew)) (by repeat (with_reducible first | exact Below.refl _ _ | apply pw_below_drewN | refine bsC ?_ hb1)) (Kd.R_drewN hB (nd + nd2))⟩
set_option maxHeartbeats 8000000 in
set_option maxRecDepth 100000 in
theorem impl_touch.X1 (kk : Nat) (kind addr value code : Int) (B : List Int) (L : List S115) (w : World) (base g p t cp1 cp2 : Nat) (cs : Array Value) (b1 : Nat) (A2 : Option Addr) (okB okL : Nat → Prop)
    (hg : w.heap[g]? = some (.cells cs t (0,0))) (h0 : cs[p]? = some (.slice (some ⟨b1,0,none⟩) B.length cp1)) (h1 : cs[p + 1]? = some (.slice A2 L.length cp2)) (ht : t ≠ 3 ∧ t ≠ 115) (hbg : base ≤ g) (hbw : base ≤ w.heap.size)
    (hB : Kd.R (Kd.int .i64) 3 w base okB (.slice (some ⟨b1,0,none⟩) B.length cp1) B) (hL : Kd.R k115 115 w base okL (.slice A2 L.length cp2) L)
    (hk : impl_codeOf.f kk kind 2 addr = some code) (ha : 0 ≤ addr) (ha2 : addr ≤ 65535) (hk2 : kind = 1) (hc : code ≠ 0) :
    Calls Try.prog 64 #[.pointer (some ⟨g,p,none⟩),.int .i64 kind,.int .i64 2,.int .i64 addr,.int .i64 value] w fun e w' => ∃ vL',e = .returned (.tuple #[.int .i64 (ichR kind code addr B),.int .i64 code]) ∧
      w'.heap[g]? = some (.cells (cs.setIfInBounds (p + 1) vL') t (0,0)) ∧ Kd.R (Kd.int .i64) 3 w' base okB (.slice (some ⟨b1,0,none⟩) B.length cp1) (ichM kind code value addr B) ∧
      Kd.R k115 115 w' base (fun k => okL k ∨ w.heap.size ≤ k) vL' (ichL kind code value addr B L) ∧ Below base w w' ∧ KeepX w w' g b1 (Value.slice A2 L.length cp2).ownBlock := by
  subst hk2
  obtain ⟨d0,d1⟩ := eF hc
  have hu27 := Try.underlying34
  have hu109 := Try.underlying115
  have hc0 : w.cell? ⟨g,p,none⟩ = some (.slice (some ⟨b1,0,none⟩) B.length cp1) := (blk_cell hg p).trans h0
  have hc1 : w.cell? ⟨g,p + 1,none⟩ = some (.slice A2 L.length cp2) := (blk_cell hg (p + 1)).trans h1
  have hne : some g ≠ (Value.slice (some ⟨b1,0,none⟩) B.length cp1).ownBlock := Kd.R_ne hB hg (Ne.symm ht.1)
  have hn1 : g ≠ b1 := fun e => hne (by simp [Value.ownBlock,e])
  have hn2 : b1 ≠ g := Ne.symm hn1
  obtain ⟨cells1,hbt⟩ := Kd.R_typed hB b1 (by simp [Value.ownBlock])
  have hb1 : base ≤ b1 := ((Kd.R_bound hB).1 b1 (by simp [Value.ownBlock])).2.1
  by_cases c4 : L.length < 400
  · have c4b : decide ((L.length : Int) < 400) = true := decide_eq_true (by omega)
    go_enter Try.func64,Try.ntmps64
    go_wp2_with (first | (go_at_call 104;(with_reducible refine (impl_codeOf.calls kk _ _ addr _ _ hk).mono ?_);rintro e w' ⟨rfl,⟨nd,rfl⟩⟩) | ((with_reducible refine gate_builtin (b := .append) (xs := #[.tmp 57,.tmp 64]) rfl ?_);go_loud (at_builtin;refine Kd.R_append k115 (w0 := w) base rfl (.tmp 57) (.tmp 64) 32 115 (.agg #[(.int .i64 0),(.int .i64 0),(.int .i64 0),(.int .i64 0),(.int .i64 0)]) 40 rfl Try.underlying32 info115 rfl (by decide) (by omega) (.slice A2 L.length cp2) L (⟨1,2,addr,0,code⟩ : S115) [.int .i64 1,.int .i64 2,.int .i64 addr,.int .i64 0,.int .i64 code] (fun k => okL k ∨ w.heap.size ≤ k) (fun _ => False) rfl ?aX ?aP (fun _ hk => hk.elim) ?aF ?aO ?aB ?aS ?aL ?_;(case aX => first | rfl | (simp [World.setCell,World.drewN];rfl));(case aP => exact k115_mkM _ _ _ (⟨1,2,addr,0,code⟩ : S115));(case aF => exact fun k hk => .inr (by simpa [World.setCell,World.drewN] using hk));(case aO => exact Kd.R_mono (oF hL hbt) (fun _ h => .inl h));(case aB => repeat (with_reducible first | exact Below.refl _ _ | apply pw_below_drewN | refine bsC ?_ hb1));(case aS => simpa [World.setCell,World.drewN] using hbw);(case aL => exact zLog c4);intro v1 w1 ho hb hgr hat;obtain ⟨Ao,co,rfl⟩ := Kd.R_slice ho;have hg1 : w1.heap[g]? = some (.cells cs t (0,0)) := (blk_grown (oG hg hn1) hgr (Kd.R_ne hL hg (Ne.symm ht.2)));have hc2 := (blk_cell hg1 p).trans h0;have hc3 := (blk_cell hg1 (p + 1)).trans h1;have hf3 := blk_frozen hg1 (p + 1))))
    refine bodyPost_ret (results_list (rs := [.tmp 10,.tmp 11]) (vs := [_,_]) rfl (by simp) (.tmp (.tmp .nil))) rfl ?_
    exact ⟨_,by simp [ichR,hc],by simpa [ichM,ichL,ichT,c4,hc] using touch1 (p := p) hg ht hbg hB hL (by repeat (with_reducible first | exact keep_refl _ _ | apply keep_put | apply keep_alloc | apply keep_drewN | apply keep_drew)) (Kd.R_drewN hB nd) ho hb hgr⟩
  · have c4b : decide ((L.length : Int) < 400) = false := decide_eq_false (by omega)
    go_enter Try.func64,Try.ntmps64
    go_wp2_with (first | (go_at_call 104;(with_reducible refine (impl_codeOf.calls kk _ _ addr _ _ hk).mono ?_);rintro e w' ⟨rfl,⟨nd,rfl⟩⟩))
    refine bodyPost_ret (results_list (rs := [.tmp 10,.tmp 11]) (vs := [_,_]) rfl (by simp) (.tmp (.tmp .nil))) rfl ?_
    exact ⟨_,by simp [ichR,hc],by simpa [ichM,ichL,c4,hc] using touch0 (p := p) hg h1 ht hB hL (by repeat (with_reducible first | exact keep_refl _ _ | apply keep_put | apply keep_alloc | apply keep_drewN | apply keep_drew)) (by repeat (with_reducible first | exact Below.refl _ _ | apply pw_below_drewN | refine bsC ?_ hb1)) (Kd.R_drewN hB nd)⟩
set_option maxHeartbeats 8000000 in
set_option maxRecDepth 100000 in
theorem impl_touch.X2 (kk : Nat) (kind addr value code : Int) (B : List Int) (L : List S115) (w : World) (base g p t cp1 cp2 : Nat) (cs : Array Value) (b1 : Nat) (A2 : Option Addr) (okB okL : Nat → Prop)
    (hg : w.heap[g]? = some (.cells cs t (0,0))) (h0 : cs[p]? = some (.slice (some ⟨b1,0,none⟩) B.length cp1)) (h1 : cs[p + 1]? = some (.slice A2 L.length cp2)) (ht : t ≠ 3 ∧ t ≠ 115) (hbg : base ≤ g) (hbw : base ≤ w.heap.size)
    (hB : Kd.R (Kd.int .i64) 3 w base okB (.slice (some ⟨b1,0,none⟩) B.length cp1) B) (hL : Kd.R k115 115 w base okL (.slice A2 L.length cp2) L)
    (hk : impl_codeOf.f kk kind 2 addr = some code) (ha : 0 ≤ addr) (ha2 : addr ≤ 65535) (hk2 : kind = 2) (hc : code ≠ 0) :
    Calls Try.prog 64 #[.pointer (some ⟨g,p,none⟩),.int .i64 kind,.int .i64 2,.int .i64 addr,.int .i64 value] w fun e w' => ∃ vL',e = .returned (.tuple #[.int .i64 (ichR kind code addr B),.int .i64 code]) ∧
      w'.heap[g]? = some (.cells (cs.setIfInBounds (p + 1) vL') t (0,0)) ∧ Kd.R (Kd.int .i64) 3 w' base okB (.slice (some ⟨b1,0,none⟩) B.length cp1) (ichM kind code value addr B) ∧
      Kd.R k115 115 w' base (fun k => okL k ∨ w.heap.size ≤ k) vL' (ichL kind code value addr B L) ∧ Below base w w' ∧ KeepX w w' g b1 (Value.slice A2 L.length cp2).ownBlock := by
  subst hk2
  obtain ⟨d0,d1⟩ := eF hc
  have hu27 := Try.underlying34
  have hu109 := Try.underlying115
  have hc0 : w.cell? ⟨g,p,none⟩ = some (.slice (some ⟨b1,0,none⟩) B.length cp1) := (blk_cell hg p).trans h0
  have hc1 : w.cell? ⟨g,p + 1,none⟩ = some (.slice A2 L.length cp2) := (blk_cell hg (p + 1)).trans h1
  have hne : some g ≠ (Value.slice (some ⟨b1,0,none⟩) B.length cp1).ownBlock := Kd.R_ne hB hg (Ne.symm ht.1)
  have hn1 : g ≠ b1 := fun e => hne (by simp [Value.ownBlock,e])
  have hn2 : b1 ≠ g := Ne.symm hn1
  obtain ⟨cells1,hbt⟩ := Kd.R_typed hB b1 (by simp [Value.ownBlock])
  have hb1 : base ≤ b1 := ((Kd.R_bound hB).1 b1 (by simp [Value.ownBlock])).2.1
  by_cases c4 : L.length < 400
  · have c4b : decide ((L.length : Int) < 400) = true := decide_eq_true (by omega)
    go_enter Try.func64,Try.ntmps64
    go_wp2_with (first | (go_at_call 104;(with_reducible refine (impl_codeOf.calls kk _ _ addr _ _ hk).mono ?_);rintro e w' ⟨rfl,⟨nd,rfl⟩⟩) | ((with_reducible refine gate_builtin (b := .append) (xs := #[.tmp 57,.tmp 64]) rfl ?_);go_loud (at_builtin;refine Kd.R_append k115 (w0 := w) base rfl (.tmp 57) (.tmp 64) 32 115 (.agg #[(.int .i64 0),(.int .i64 0),(.int .i64 0),(.int .i64 0),(.int .i64 0)]) 40 rfl Try.underlying32 info115 rfl (by decide) (by omega) (.slice A2 L.length cp2) L (⟨2,2,addr,value,code⟩ : S115) [.int .i64 2,.int .i64 2,.int .i64 addr,.int .i64 value,.int .i64 code] (fun k => okL k ∨ w.heap.size ≤ k) (fun _ => False) rfl ?aX ?aP (fun _ hk => hk.elim) ?aF ?aO ?aB ?aS ?aL ?_;(case aX => first | rfl | (simp [World.setCell,World.drewN];rfl));(case aP => exact k115_mkM _ _ _ (⟨2,2,addr,value,code⟩ : S115));(case aF => exact fun k hk => .inr (by simpa [World.setCell,World.drewN] using hk));(case aO => exact Kd.R_mono (oF hL hbt) (fun _ h => .inl h));(case aB => repeat (with_reducible first | exact Below.refl _ _ | apply pw_below_drewN | refine bsC ?_ hb1));(case aS => simpa [World.setCell,World.drewN] using hbw);(case aL => exact zLog c4);intro v1 w1 ho hb hgr hat;obtain ⟨Ao,co,rfl⟩ := Kd.R_slice ho;have hg1 : w1.heap[g]? = some (.cells cs t (0,0)) := (blk_grown (oG hg hn1) hgr (Kd.R_ne hL hg (Ne.symm ht.2)));have hc2 := (blk_cell hg1 p).trans h0;have hc3 := (blk_cell hg1 (p + 1)).trans h1;have hf3 := blk_frozen hg1 (p + 1))))
    refine bodyPost_ret (results_list (rs := [.tmp 10,.tmp 11]) (vs := [_,_]) rfl (by simp) (.tmp (.tmp .nil))) rfl ?_
    exact ⟨_,by simp [ichR,hc],by simpa [ichM,ichL,ichT,c4,hc] using touch1 (p := p) hg ht hbg hB hL (by repeat (with_reducible first | exact keep_refl _ _ | apply keep_put | apply keep_alloc | apply keep_drewN | apply keep_drew)) (Kd.R_drewN hB nd) ho hb hgr⟩
  · have c4b : decide ((L.length : Int) < 400) = false := decide_eq_false (by omega)
    go_enter Try.func64,Try.ntmps64
    go_wp2_with (first | (go_at_call 104;(with_reducible refine (impl_codeOf.calls kk _ _ addr _ _ hk).mono ?_);rintro e w' ⟨rfl,⟨nd,rfl⟩⟩))
    refine bodyPost_ret (results_list (rs := [.tmp 10,.tmp 11]) (vs := [_,_]) rfl (by simp) (.tmp (.tmp .nil))) rfl ?_
    exact ⟨_,by simp [ichR,hc],by simpa [ichM,ichL,c4,hc] using touch0 (p := p) hg h1 ht hB hL (by repeat (with_reducible first | exact keep_refl _ _ | apply keep_put | apply keep_alloc | apply keep_drewN | apply keep_drew)) (by repeat (with_reducible first | exact Below.refl _ _ | apply pw_below_drewN | refine bsC ?_ hb1)) (Kd.R_drewN hB nd)⟩
set_option maxHeartbeats 8000000 in
set_option maxRecDepth 100000 in
theorem impl_touch.X3 (kk : Nat) (kind addr value code : Int) (B : List Int) (L : List S115) (w : World) (base g p t cp1 cp2 : Nat) (cs : Array Value) (b1 : Nat) (A2 : Option Addr) (okB okL : Nat → Prop)
    (hg : w.heap[g]? = some (.cells cs t (0,0))) (h0 : cs[p]? = some (.slice (some ⟨b1,0,none⟩) B.length cp1)) (h1 : cs[p + 1]? = some (.slice A2 L.length cp2)) (ht : t ≠ 3 ∧ t ≠ 115) (hbg : base ≤ g) (hbw : base ≤ w.heap.size)
    (hB : Kd.R (Kd.int .i64) 3 w base okB (.slice (some ⟨b1,0,none⟩) B.length cp1) B) (hL : Kd.R k115 115 w base okL (.slice A2 L.length cp2) L)
    (hk : impl_codeOf.f kk kind 2 addr = some code) (ha : 0 ≤ addr) (ha2 : addr ≤ 65535) (hk2 : kind = 3) (hc : code ≠ 0) :
    Calls Try.prog 64 #[.pointer (some ⟨g,p,none⟩),.int .i64 kind,.int .i64 2,.int .i64 addr,.int .i64 value] w fun e w' => ∃ vL',e = .returned (.tuple #[.int .i64 (ichR kind code addr B),.int .i64 code]) ∧
      w'.heap[g]? = some (.cells (cs.setIfInBounds (p + 1) vL') t (0,0)) ∧ Kd.R (Kd.int .i64) 3 w' base okB (.slice (some ⟨b1,0,none⟩) B.length cp1) (ichM kind code value addr B) ∧
      Kd.R k115 115 w' base (fun k => okL k ∨ w.heap.size ≤ k) vL' (ichL kind code value addr B L) ∧ Below base w w' ∧ KeepX w w' g b1 (Value.slice A2 L.length cp2).ownBlock := by
  subst hk2
  obtain ⟨d0,d1⟩ := eF hc
  have hu27 := Try.underlying34
  have hu109 := Try.underlying115
  have hc0 : w.cell? ⟨g,p,none⟩ = some (.slice (some ⟨b1,0,none⟩) B.length cp1) := (blk_cell hg p).trans h0
  have hc1 : w.cell? ⟨g,p + 1,none⟩ = some (.slice A2 L.length cp2) := (blk_cell hg (p + 1)).trans h1
  have hne : some g ≠ (Value.slice (some ⟨b1,0,none⟩) B.length cp1).ownBlock := Kd.R_ne hB hg (Ne.symm ht.1)
  have hn1 : g ≠ b1 := fun e => hne (by simp [Value.ownBlock,e])
  have hn2 : b1 ≠ g := Ne.symm hn1
  obtain ⟨cells1,hbt⟩ := Kd.R_typed hB b1 (by simp [Value.ownBlock])
  have hb1 : base ≤ b1 := ((Kd.R_bound hB).1 b1 (by simp [Value.ownBlock])).2.1
  by_cases c4 : L.length < 400
  · have c4b : decide ((L.length : Int) < 400) = true := decide_eq_true (by omega)
    go_enter Try.func64,Try.ntmps64
    go_wp2_with (first | (go_at_call 104;(with_reducible refine (impl_codeOf.calls kk _ _ addr _ _ hk).mono ?_);rintro e w' ⟨rfl,⟨nd,rfl⟩⟩) | ((with_reducible refine gate_builtin (b := .append) (xs := #[.tmp 57,.tmp 64]) rfl ?_);go_loud (at_builtin;refine Kd.R_append k115 (w0 := w) base rfl (.tmp 57) (.tmp 64) 32 115 (.agg #[(.int .i64 0),(.int .i64 0),(.int .i64 0),(.int .i64 0),(.int .i64 0)]) 40 rfl Try.underlying32 info115 rfl (by decide) (by omega) (.slice A2 L.length cp2) L (⟨3,2,addr,0,code⟩ : S115) [.int .i64 3,.int .i64 2,.int .i64 addr,.int .i64 0,.int .i64 code] (fun k => okL k ∨ w.heap.size ≤ k) (fun _ => False) rfl ?aX ?aP (fun _ hk => hk.elim) ?aF ?aO ?aB ?aS ?aL ?_;(case aX => first | rfl | (simp [World.setCell,World.drewN];rfl));(case aP => exact k115_mkM _ _ _ (⟨3,2,addr,0,code⟩ : S115));(case aF => exact fun k hk => .inr (by simpa [World.setCell,World.drewN] using hk));(case aO => exact Kd.R_mono (oF hL hbt) (fun _ h => .inl h));(case aB => repeat (with_reducible first | exact Below.refl _ _ | apply pw_below_drewN | refine bsC ?_ hb1));(case aS => simpa [World.setCell,World.drewN] using hbw);(case aL => exact zLog c4);intro v1 w1 ho hb hgr hat;obtain ⟨Ao,co,rfl⟩ := Kd.R_slice ho;have hg1 : w1.heap[g]? = some (.cells cs t (0,0)) := (blk_grown (oG hg hn1) hgr (Kd.R_ne hL hg (Ne.symm ht.2)));have hc2 := (blk_cell hg1 p).trans h0;have hc3 := (blk_cell hg1 (p + 1)).trans h1;have hf3 := blk_frozen hg1 (p + 1))))
    refine bodyPost_ret (results_list (rs := [.tmp 10,.tmp 11]) (vs := [_,_]) rfl (by simp) (.tmp (.tmp .nil))) rfl ?_
    exact ⟨_,by simp [ichR,hc],by simpa [ichM,ichL,ichT,c4,hc] using touch1 (p := p) hg ht hbg hB hL (by repeat (with_reducible first | exact keep_refl _ _ | apply keep_put | apply keep_alloc | apply keep_drewN | apply keep_drew)) (Kd.R_drewN hB nd) ho hb hgr⟩
  · have c4b : decide ((L.length : Int) < 400) = false := decide_eq_false (by omega)
    go_enter Try.func64,Try.ntmps64
    go_wp2_with (first | (go_at_call 104;(with_reducible refine (impl_codeOf.calls kk _ _ addr _ _ hk).mono ?_);rintro e w' ⟨rfl,⟨nd,rfl⟩⟩))
    refine bodyPost_ret (results_list (rs := [.tmp 10,.tmp 11]) (vs := [_,_]) rfl (by simp) (.tmp (.tmp .nil))) rfl ?_
    exact ⟨_,by simp [ichR,hc],by simpa [ichM,ichL,c4,hc] using touch0 (p := p) hg h1 ht hB hL (by repeat (with_reducible first | exact keep_refl _ _ | apply keep_put | apply keep_alloc | apply keep_drewN | apply keep_drew)) (by repeat (with_reducible first | exact Below.refl _ _ | apply pw_below_drewN | refine bsC ?_ hb1)) (Kd.R_drewN hB nd)⟩
theorem impl_touch.T (kk : Nat) (kind addr value code : Int) (B : List Int) (L : List S115) (w : World) (base g p t cp1 cp2 : Nat) (cs : Array Value) (b1 : Nat) (A2 : Option Addr) (okB okL : Nat → Prop)
    (hg : w.heap[g]? = some (.cells cs t (0,0))) (h0 : cs[p]? = some (.slice (some ⟨b1,0,none⟩) B.length cp1)) (h1 : cs[p + 1]? = some (.slice A2 L.length cp2)) (ht : t ≠ 3 ∧ t ≠ 115) (hbg : base ≤ g) (hbw : base ≤ w.heap.size)
    (hB : Kd.R (Kd.int .i64) 3 w base okB (.slice (some ⟨b1,0,none⟩) B.length cp1) B) (hL : Kd.R k115 115 w base okL (.slice A2 L.length cp2) L)
    (hk : impl_codeOf.f kk kind 2 addr = some code) (ha : 0 ≤ addr) (ha2 : addr ≤ 65535) (hkd : kind = 1 ∨ kind = 2 ∨ kind = 3) (hr : code = 0 → addr + 1 < (B.length : Int)) :
    Calls Try.prog 64 #[.pointer (some ⟨g,p,none⟩),.int .i64 kind,.int .i64 2,.int .i64 addr,.int .i64 value] w fun e w' => ∃ vL',e = .returned (.tuple #[.int .i64 (ichR kind code addr B),.int .i64 code]) ∧
      w'.heap[g]? = some (.cells (cs.setIfInBounds (p + 1) vL') t (0,0)) ∧ Kd.R (Kd.int .i64) 3 w' base okB (.slice (some ⟨b1,0,none⟩) B.length cp1) (ichM kind code value addr B) ∧
      Kd.R k115 115 w' base (fun k => okL k ∨ w.heap.size ≤ k) vL' (ichL kind code value addr B L) ∧ Below base w w' ∧ KeepX w w' g b1 (Value.slice A2 L.length cp2).ownBlock := by
  by_cases hc : code = 0
  · rcases hkd with h | h | h
    · exact impl_touch.R0 kk kind addr value code B L w base g p t cp1 cp2 cs b1 A2 okB okL hg h0 h1 ht hbg hbw hB hL hk ha ha2 h hc (hr hc)
    · exact impl_touch.W0 kk kind addr value code B L w base g p t cp1 cp2 cs b1 A2 okB okL hg h0 h1 ht hbg hbw hB hL hk ha ha2 h hc (hr hc)
    · exact impl_touch.F0 kk kind addr value code B L w base g p t cp1 cp2 cs b1 A2 okB okL hg h0 h1 ht hbg hbw hB hL hk ha ha2 h hc (hr hc)
  · rcases hkd with h | h | h
    · exact impl_touch.X1 kk kind addr value code B L w base g p t cp1 cp2 cs b1 A2 okB okL hg h0 h1 ht hbg hbw hB hL hk ha ha2 h hc
    · exact impl_touch.X2 kk kind addr value code B L w base g p t cp1 cp2 cs b1 A2 okB okL hg h0 h1 ht hbg hbw hB hL hk ha ha2 h hc
    · exact impl_touch.X3 kk kind addr value code B L w base g p t cp1 cp2 cs b1 A2 okB okL hg h0 h1 ht hbg hbw hB hL hk ha ha2 h hc
def IS (W : World) (base g : Nat) (AD AA AL : Option Addr) (b1 cD cA cB cL : Nat) (D A : List Int) (i2 i3 i4 i5 : Int) (b6 b7 : Bool) (B : List Int) (L : List S115) (b10 b11 : Bool) : Prop :=
  W.heap[g]? = some (.cells #[.slice AD D.length cD,.slice AA A.length cA,.int .i64 i2,.int .i64 i3,.int .i64 i4,.int .i64 i5,.bool b6,.bool b7,.slice (some ⟨b1,0,none⟩) B.length cB,.slice AL L.length cL,.bool b10,.bool b11] 36 (0,0)) ∧ base ≤ g ∧ base ≤ W.heap.size ∧
  Kd.R (Kd.int .i64) 3 W base (fun k => some k ≠ (Value.slice AA A.length cA).ownBlock ∧ k ≠ b1) (.slice AD D.length cD) D ∧
  Kd.R (Kd.int .i64) 3 W base (fun k => some k ≠ (Value.slice AD D.length cD).ownBlock ∧ k ≠ b1) (.slice AA A.length cA) A ∧
  Kd.R (Kd.int .i64) 3 W base (fun k => some k ≠ (Value.slice AD D.length cD).ownBlock ∧ some k ≠ (Value.slice AA A.length cA).ownBlock) (.slice (some ⟨b1,0,none⟩) B.length cB) B ∧
  Kd.R k115 115 W base (fun _ => True) (.slice AL L.length cL) L
section
variable {W : World} {base g : Nat} {AD AA AL : Option Addr} {b1 cD cA cB cL : Nat} {D A : List Int} {i2 i3 i4 i5 : Int} {b6 b7 : Bool} {B : List Int} {L : List S115} {b10 b11 : Bool}
theorem IS.box (hS : IS W base g AD AA AL b1 cD cA cB cL D A i2 i3 i4 i5 b6 b7 B L b10 b11) : W.heap[g]? = some (.cells #[.slice AD D.length cD,.slice AA A.length cA,.int .i64 i2,.int .i64 i3,.int .i64 i4,.int .i64 i5,.bool b6,.bool b7,.slice (some ⟨b1,0,none⟩) B.length cB,.slice AL L.length cL,.bool b10,.bool b11] 36 (0,0)) := hS.1
theorem IS.below {W' : World} (hS : IS W base g AD AA AL b1 cD cA cB cL D A i2 i3 i4 i5 b6 b7 B L b10 b11) (h : Below W.heap.size W W') : IS W' base g AD AA AL b1 cD cA cB cL D A i2 i3 i4 i5 b6 b7 B L b10 b11 :=
  ⟨blk_below hS.1 h,hS.2.1,Nat.le_trans hS.2.2.1 h.size,Kd.R_below hS.2.2.2.1 h,Kd.R_below hS.2.2.2.2.1 h,Kd.R_below hS.2.2.2.2.2.1 h,Kd.R_below hS.2.2.2.2.2.2 h⟩
theorem IS.drewN (hS : IS W base g AD AA AL b1 cD cA cB cL D A i2 i3 i4 i5 b6 b7 B L b10 b11) (n : Nat) : IS (W.drewN n) base g AD AA AL b1 cD cA cB cL D A i2 i3 i4 i5 b6 b7 B L b10 b11 :=
  ⟨blk_drewN hS.1 n,hS.2.1,hS.2.2.1,Kd.R_drewN hS.2.2.2.1 n,Kd.R_drewN hS.2.2.2.2.1 n,Kd.R_drewN hS.2.2.2.2.2.1 n,Kd.R_drewN hS.2.2.2.2.2.2 n⟩
theorem IS.cells {v0 v1 : Bool} {j2 j3 j4 j5 : Int} {c6 c7 : Bool} (hS : IS W base g AD AA AL b1 cD cA cB cL D A i2 i3 i4 i5 b6 b7 B L b10 b11) (W' : World) (hk : KeepBut W W' g none)
    (hW : W'.heap[g]? = some (.cells #[.slice AD D.length cD,.slice AA A.length cA,.int .i64 j2,.int .i64 j3,.int .i64 j4,.int .i64 j5,.bool c6,.bool c7,.slice (some ⟨b1,0,none⟩) B.length cB,.slice AL L.length cL,.bool v0,.bool v1] 36 (0,0))) :
    IS W' base g AD AA AL b1 cD cA cB cL D A j2 j3 j4 j5 c6 c7 B L v0 v1 := by
  obtain ⟨hg,hbg,hbw,hD,hA,hB,hL⟩ := hS
  exact ⟨hW,hbg,Nat.le_trans hbw hk.1,oF hD hg (by decide) hk,oF hA hg (by decide) hk,oF hB hg (by decide) hk,oF hL hg (by decide) hk⟩
end

end Go.Proofs.Ythlhapafipikmaa.E
