-- Made by this session's program gprint.py out of the translation. Not trusted: Lean checks it.
import Derived.Test.YtapfngfaiojmhaaRx0
import Derived.Test.YtapfngfaiojmhaaRx1
import Derived.Test.YtapfngfaiojmhaaRx10
import Derived.Test.YtapfngfaiojmhaaRx11
namespace Go.Proofs.Ytapfngfaiojmhaa.R
open Go.RowKit Go.Proofs.YtapfngfaiojmhaaW.PrintWords Go.Proofs.YtapfngfaiojmhaaW.PrintLast Go.Proofs.YtapfngfaiojmhaaW.PrintMore
attribute [local go_sem] max2_int min2_int max_two min_two max_three min_three max_four min_four   -- for this text's walks alone
set_option linter.unusedVariables false
set_option linter.unusedSimpArgs false

attribute [local go_sem high] eqA47
/-- A state of type 34 at block g of W; what its slices lead to came in by w0. -/
def IsS34 (w0 W : World) (g : Nat) (f0 : List Int) (f1 : List (S89)) : Prop := ∃ A0 c0,∃ A1 c1,W.heap[g]? = some (.cells #[.slice A0 f0.length c0,.slice A1 f1.length c1] 34 (0,0)) ∧ w0.heap.size ≤ g ∧ Kd.C (Kd.int .i64) w0 A0 f0.length f0 ∧ Kd.C k89 w0 A1 f1.length f1
theorem IsS34.grown {w0 W : World} {g : Nat} {f0 : List Int} {f1 : List (S89)} {W1 : World} {row : Option Nat} (h : IsS34 w0 W g f0 f1) (hw : W.grownBy W1 row) (hne : some g ≠ row) : IsS34 w0 W1 g f0 f1 := by
 obtain ⟨A0,c0,A1,c1,hb,hg,hr0,hr1⟩ := h
 exact ⟨A0,c0,A1,c1,blk_grown hb hw hne,hg,hr0,hr1⟩
theorem IsS34.own_neN {w0 W : World} {g : Nat} {f0 : List Int} {f1 : List (S89)} {α : Type} {d : Kd α} {e : Nat} {base : Nat} {ok : Nat → Prop} {v : Value} {xs : List α} (h : IsS34 w0 W g f0 f1) (ho : Kd.N d e W base ok v xs) (ht : e ≠ 34) : some g ≠ v.ownBlock := by
 obtain ⟨A0,c0,A1,c1,hb,hg,hr0,hr1⟩ := h
 exact Kd.N_ne ho hb ht
theorem IsS34.fresh {w0 W : World} {g : Nat} {f0 : List Int} {f1 : List (S89)} (h : IsS34 w0 W g f0 f1) : ∀ k,W.heap.size ≤ k → k ≠ g := by
 obtain ⟨A0,c0,A1,c1,hb,hg,hr0,hr1⟩ := h
 exact Kd.freshB hb
theorem IsS34.kept {w0 W : World} {g : Nat} {f0 : List Int} {f1 : List (S89)} {W1 : World} {S : Nat → Prop} (h : IsS34 w0 W g f0 f1) (hk : Kept W W1 S) (hne : ¬ S g) : IsS34 w0 W1 g f0 f1 := by
 obtain ⟨A0,c0,A1,c1,hb,hg,hr0,hr1⟩ := h
 exact ⟨A0,c0,A1,c1,blk_kept hb hk hne,hg,hr0,hr1⟩
theorem IsS34.below {w0 W : World} {g : Nat} {f0 : List Int} {f1 : List (S89)} {W1 : World} (h : IsS34 w0 W g f0 f1) (hw : Below W.heap.size W W1) : IsS34 w0 W1 g f0 f1 := h.grown (grown_of_below hw none) (by simp)
theorem IsS34.alloc {w0 W : World} {g : Nat} {f0 : List Int} {f1 : List (S89)} (h : IsS34 w0 W g f0 f1) (o : Obj) : IsS34 w0 (W.alloc o) g f0 f1 := h.below (below_alloc (Below.refl _ _) o)
theorem IsS34.drewN {w0 W : World} {g : Nat} {f0 : List Int} {f1 : List (S89)} (h : IsS34 w0 W g f0 f1) (m : Nat) : IsS34 w0 (W.drewN m) g f0 f1 := h
theorem IsS34.drew {w0 W : World} {g : Nat} {f0 : List Int} {f1 : List (S89)} (h : IsS34 w0 W g f0 f1) : IsS34 w0 W.drew g f0 f1 := h
theorem IsS34.at_ {w0 W : World} {g : Nat} {f0 : List Int} {f1 : List (S89)} {w' : World} {m : Nat} (hq : W.drewN m = w') (h : IsS34 w0 W g f0 f1) : IsS34 w0 w' g f0 f1 := by subst hq;exact IsS34.drewN h m
theorem IsS34.apart {w0 W : World} {g : Nat} {f0 : List Int} {f1 : List (S89)} {α : Type} {d : Kd α} {e : Nat} {base : Nat} {ok : Nat → Prop} {v : Value} {xs : List α} (h : IsS34 w0 W g f0 f1) (ho : d.R e W base ok v xs) (ht : ∀ q,q ∈ e :: d.E → q ≠ 34) : d.R e W base (fun k => ok k ∧ k ≠ g) v xs := by
 obtain ⟨A0,c0,A1,c1,hb,hg,hr0,hr1⟩ := h
 exact Kd.R_types ho hb ht
theorem IsS34.own_ne {w0 W : World} {g : Nat} {f0 : List Int} {f1 : List (S89)} {α : Type} {d : Kd α} {e : Nat} {base : Nat} {ok : Nat → Prop} {v : Value} {xs : List α} (h : IsS34 w0 W g f0 f1) (ho : d.R e W base ok v xs) (ht : e ≠ 34) : some g ≠ v.ownBlock := by
 obtain ⟨A0,c0,A1,c1,hb,hg,hr0,hr1⟩ := h
 exact Kd.R_ne ho hb ht
theorem IsS34.apartQ {w0 W : World} {g : Nat} {f0 : List Int} {f1 : List (S89)} {α : Type} {d : Kd α} {e : Nat} {base : Nat} {ok : Nat → Prop} {v : Value} {xs : List α} (h : IsS34 w0 W g f0 f1) (ho : d.Q e W base ok v xs) (ht : ∀ q,q ∈ e :: d.E → q ≠ 34) : d.Q e W base (fun k => ok k ∧ k ≠ g) v xs := by
 obtain ⟨A0,c0,A1,c1,hb,hg,hr0,hr1⟩ := h
 exact Kd.Q_types ho hb ht
theorem IsS34.own_neQ {w0 W : World} {g : Nat} {f0 : List Int} {f1 : List (S89)} {α : Type} {d : Kd α} {e : Nat} {base : Nat} {ok : Nat → Prop} {v : Value} {xs : List α} (h : IsS34 w0 W g f0 f1) (ho : d.Q e W base ok v xs) (ht : e ≠ 34) : some g ≠ v.ownBlock := by
 obtain ⟨A0,c0,A1,c1,hb,hg,hr0,hr1⟩ := h
 exact Kd.Q_ne ho hb ht
theorem IsS34.apartS {w0 W : World} {g : Nat} {f0 : List Int} {f1 : List (S89)} {α : Type} {d : Kd α} {e : Nat} {base : Nat} {ok : Nat → Prop} {v : Value} {xs : List α} (h : IsS34 w0 W g f0 f1) (ho : d.S e W base ok v xs) (ht : ∀ q,q ∈ e :: d.E → q ≠ 34) : d.S e W base (fun k => ok k ∧ k ≠ g) v xs := by
 obtain ⟨A0,c0,A1,c1,hb,hg,hr0,hr1⟩ := h
 exact Kd.S_types ho hb ht
theorem IsS34.own_neS {w0 W : World} {g : Nat} {f0 : List Int} {f1 : List (S89)} {α : Type} {d : Kd α} {e : Nat} {base : Nat} {ok : Nat → Prop} {v : Value} {xs : List α} (h : IsS34 w0 W g f0 f1) (ho : d.S e W base ok v xs) (ht : e ≠ 34) : some g ≠ v.ownBlock := by
 obtain ⟨A0,c0,A1,c1,hb,hg,hr0,hr1⟩ := h
 exact Kd.S_ne ho hb ht
theorem IsS34.lt {w0 W : World} {g : Nat} {f0 : List Int} {f1 : List (S89)} (h : IsS34 w0 W g f0 f1) : g < W.heap.size := by
 obtain ⟨A0,c0,A1,c1,hb,hg,hr0,hr1⟩ := h
 exact blk_lt hb
theorem IsS34.ge {w0 W : World} {g : Nat} {f0 : List Int} {f1 : List (S89)} (h : IsS34 w0 W g f0 f1) : w0.heap.size ≤ g := by
 obtain ⟨A0,c0,A1,c1,hb,hg,hr0,hr1⟩ := h
 exact hg
theorem IsS34.ne_blk {w0 W : World} {g : Nat} {f0 : List Int} {f1 : List (S89)} {a : Nat} {cs : Array Value} {t : TypeId} {fr : Nat × Nat} (h : IsS34 w0 W g f0 f1) (hb2 : W.heap[a]? = some (.cells cs t fr)) (ht : t ≠ 34) : g ≠ a := by
 obtain ⟨A0,c0,A1,c1,hb,hg,hr0,hr1⟩ := h
 rintro rfl
 rw [hb] at hb2
 injection hb2 with hb2
 injection hb2 with _ ht2
 exact ht ht2.symm
theorem IsS34.far {w0 W : World} {g : Nat} {f0 : List Int} {f1 : List (S89)} {p : Addr} (h : IsS34 w0 W g f0 f1) (hne : g ≠ p.block) (u : Value) : IsS34 w0 (W.setCell p u) g f0 f1 := by
 obtain ⟨A0,c0,A1,c1,hb,hg,hr0,hr1⟩ := h
 exact ⟨A0,c0,A1,c1,blk_far hb hne u,hg,hr0,hr1⟩
theorem cellS34_0 {W : World} {g : Nat} {A0 : Option Addr} {c0 : Nat} {A1 : Option Addr} {c1 : Nat} {f0 : List Int} {f1 : List (S89)} (h : W.heap[g]? = some (.cells #[.slice A0 f0.length c0,.slice A1 f1.length c1] 34 (0,0))) : W.cell? ⟨g,0,none⟩ = some (.slice A0 f0.length c0) := (blk_cell h 0).trans rfl
theorem cellS34_1 {W : World} {g : Nat} {A0 : Option Addr} {c0 : Nat} {A1 : Option Addr} {c1 : Nat} {f0 : List Int} {f1 : List (S89)} (h : W.heap[g]? = some (.cells #[.slice A0 f0.length c0,.slice A1 f1.length c1] 34 (0,0))) : W.cell? ⟨g,1,none⟩ = some (.slice A1 f1.length c1) := (blk_cell h 1).trans rfl
theorem IsS34.new (w0 W : World) (A0 : Option Addr) (c0 : Nat) (A1 : Option Addr) (c1 : Nat) (f0 : List Int) (f1 : List (S89)) (hB : Below w0.heap.size w0 W) (hr0 : Kd.C (Kd.int .i64) w0 A0 f0.length f0) (hr1 : Kd.C k89 w0 A1 f1.length f1) : IsS34 w0 (W.alloc (.cells #[.slice A0 f0.length c0,.slice A1 f1.length c1] 34)) W.heap.size f0 f1 := ⟨A0,c0,A1,c1,by simpa using heap_alloc_new W _,hB.size,hr0,hr1⟩

theorem foldL_impl {P : Program} {ops : Array Oper} {Q : Exit → Act → World → Prop} {rest : List Oper} {a : Act} {W : World} (Pr : World → Prop) (hp : Pr W) (h : ∀ W_,Pr W_ → wpList P ops Q rest a W_) : wpList P ops Q rest a W := h W hp
/-! ### impl_Bus_at: function 65 -/
def impl_Bus_at.f (s0_0 : List Int) (s0_1 : List (S89)) (a1 : Int) (a2 : Int) : Option (Int) := if a1 = 1 then (if 0 ≤ a2 then (if a2 < (s0_0.length : Int) then (some (rd s0_0 a2)) else (none)) else (none)) else (if 0 ≤ a2 then (if a2 < (s0_0.length : Int) then (if 0 ≤ (wrap64 (a2 + 1)) then (if (wrap64 (a2 + 1)) < (s0_0.length : Int) then (some (Go.bits .or .i64 (wrap64 ((rd s0_0 a2) * 256)) (rd s0_0 (wrap64 (a2 + 1))))) else (none)) else (none)) else (none)) else (none))
set_option maxHeartbeats 8000000 in
set_option maxRecDepth 100000 in
theorem impl_Bus_at.calls (g : Nat) (s0_0 : List Int) (s0_1 : List (S89)) (a1 : Int) (a2 : Int) (r : Int) (w0 w : World) (hI : IsS34 w0 w g s0_0 s0_1) (hB : Below w0.heap.size w0 w) (h : impl_Bus_at.f s0_0 s0_1 a1 a2 = some r) :
  Calls Try.prog 65 #[.pointer (some ⟨g,0,none⟩),.int .i64 a1,.int .i64 a2] w fun e w' => e = .returned (.int .i64 r) ∧ IsS34 w0 w' g s0_0 s0_1 ∧ Below w0.heap.size w0 w' ∧ KeepBut w w' g none := by
 have HI0 := aS hI;have HK := aS (KeepBut.refl w g none);have HL := aS hB.size;clear hI;have HW0 := aS hB.size;have HB := aS hB;clear hB;have H : (if a1 = 1 then (if 0 ≤ a2 then (if a2 < (s0_0.length : Int) then (some (rd s0_0 a2)) else (none)) else (none)) else (if 0 ≤ a2 then (if a2 < (s0_0.length : Int) then (if 0 ≤ (wrap64 (a2 + 1)) then (if (wrap64 (a2 + 1)) < (s0_0.length : Int) then (some (Go.bits .or .i64 (wrap64 ((rd s0_0 a2) * 256)) (rd s0_0 (wrap64 (a2 + 1))))) else (none)) else (none)) else (none)) else (none))) = some r := h;clear h;by_cases c4 : a1 = 1
 ·
  rw [if_pos c4] at H;obtain ⟨c4b0,c4b1⟩ := eT c4;clear c4;by_cases c5 : 0 ≤ a2
  ·
   rw [if_pos c5] at H;have c5b0 : decide (0 ≤ a2) = true := decide_eq_true c5;clear c5;by_cases c6 : a2 < (s0_0.length : Int)
   ·
    rw [if_pos c6] at H;have c6b0 : decide (a2 < (s0_0.length : Int)) = true := decide_eq_true c6;clear c6;obtain rfl := Option.some.inj H;obtain ⟨ASz7_0,cSz7_0,ASz7_1,cSz7_1,HGz7,hgz7,HSz7_0,HSz7_1⟩ := HI0.out;have Z7_0 := cellS34_0 HGz7;have Z7_1 := cellS34_1 HGz7;clear HGz7 hgz7;have p101 : 0 ≤ (a2 : Int) := of_decide_eq_true (by first | (with_reducible assumption) | assumption);have q101 : a2 < (s0_0.length : Int) := of_decide_eq_true (by first | (with_reducible assumption) | assumption);obtain ⟨ad101,e101,hx101_0⟩ := Kd.at_int HSz7_0 a2 p101 q101;cases e101
    replace hx101_0 := pw_cell_below HB.out hx101_0;replace p101 := eq_true p101;replace q101 := eq_true q101;go_enter Try.func65,Try.ntmps65;go_wp2;repeat (go_quiet (fail);try go_wp2)
    go_ret;exact ⟨oE,by repeat (first | (with_reducible first | exact HI0.out | apply IsS34.alloc | apply IsS34.drewN | apply IsS34.drew) | exact HI0.out),by repeat (first | (with_reducible first | exact HB.out | apply below_alloc | apply pw_below_drewN | apply below_drew1 | refine below_set ?_ (IsS34.ge HI0.out)) | exact HB.out),by repeat (first | (with_reducible first | exact HK.out | apply KeepBut.set_ | apply keep_drewN | apply keep_drew | apply keep_alloc) | exact HK.out)⟩
   · rw [if_neg c6] at H;exact absurd H (by simp)
  · rw [if_neg c5] at H;exact absurd H (by simp)
 ·
  rw [if_neg c4] at H;obtain ⟨c4b0,c4b1⟩ := eF c4;by_cases c8 : 0 ≤ a2
  ·
   rw [if_pos c8] at H;have c8b0 : decide (0 ≤ a2) = true := decide_eq_true c8;clear c8;by_cases c9 : a2 < (s0_0.length : Int)
   ·
    rw [if_pos c9] at H;have c9b0 : decide (a2 < (s0_0.length : Int)) = true := decide_eq_true c9;clear c9;obtain ⟨ji10,hji10⟩ : ∃ j_ : Int,(wrap64 (a2 + 1)) = j_ := ⟨_,rfl⟩;replace H : (if 0 ≤ (ji10) then (if (ji10) < (s0_0.length : Int) then (some (Go.bits .or .i64 (wrap64 ((rd s0_0 a2) * 256)) (rd s0_0 (ji10)))) else (none)) else (none)) = some r := by first | (rw [hji10] at H;exact H) | (simp only [hji10] at H ⊢;exact H)
    have hji10w : (IntKind.i64.wrap (a2 + 1)) = ji10 := (i64_w _).trans hji10;by_cases c11 : 0 ≤ (ji10)
    ·
     rw [if_pos c11] at H;have c11b0 : decide (0 ≤ (ji10)) = true := decide_eq_true c11;clear c11;by_cases c12 : (ji10) < (s0_0.length : Int)
     ·
      rw [if_pos c12] at H;have c12b0 : decide ((ji10) < (s0_0.length : Int)) = true := decide_eq_true c12;clear c12;obtain rfl := Option.some.inj H;obtain ⟨ASz13_0,cSz13_0,ASz13_1,cSz13_1,HGz13,hgz13,HSz13_0,HSz13_1⟩ := HI0.out;have Z13_0 := cellS34_0 HGz13;have Z13_1 := cellS34_1 HGz13;clear HGz13 hgz13;have p102 : 0 ≤ (a2 : Int) := of_decide_eq_true (by first | (with_reducible assumption) | assumption);have q102 : a2 < (s0_0.length : Int) := of_decide_eq_true (by first | (with_reducible assumption) | assumption);obtain ⟨ad102,e102,hx102_0⟩ := Kd.at_int HSz13_0 a2 p102 q102;cases e102
      replace hx102_0 := pw_cell_below HB.out hx102_0;replace p102 := eq_true p102;replace q102 := eq_true q102;have p103 : 0 ≤ ((ji10) : Int) := of_decide_eq_true (by first | (with_reducible assumption) | assumption);have q103 : (ji10) < (s0_0.length : Int) := of_decide_eq_true (by first | (with_reducible assumption) | assumption);obtain ⟨ad103,e103,hx103_0⟩ := Kd.at_int HSz13_0 (ji10) p103 q103;obtain rfl : ad102 = ad103 := (by injection e103);replace hx103_0 := pw_cell_below HB.out hx103_0;replace p103 := eq_true p103;replace q103 := eq_true q103;go_enter Try.func65,Try.ntmps65;go_wp2;repeat (go_quiet (fail);try go_wp2)
      go_ret;exact ⟨by first | rfl | (simp [errW_none,errW_some] <;> rfl) | (simp only [← hji10];first | rfl | (simp [errW_none,errW_some] <;> rfl)) | (simp [*,errW_none,errW_some] <;> rfl),by repeat (first | (with_reducible first | exact HI0.out | apply IsS34.alloc | apply IsS34.drewN | apply IsS34.drew) | exact HI0.out),by repeat (first | (with_reducible first | exact HB.out | apply below_alloc | apply pw_below_drewN | apply below_drew1 | refine below_set ?_ (IsS34.ge HI0.out)) | exact HB.out),by repeat (first | (with_reducible first | exact HK.out | apply KeepBut.set_ | apply keep_drewN | apply keep_drew | apply keep_alloc) | exact HK.out)⟩
     · rw [if_neg c12] at H;exact absurd H (by simp)
    · rw [if_neg c11] at H;exact absurd H (by simp)
   · rw [if_neg c9] at H;exact absurd H (by simp)
  · rw [if_neg c8] at H;exact absurd H (by simp)

/-! ### impl_flag: function 97 -/
def impl_flag.f (a0 : Bool) (a1 : Int) : Option (Int) := if a0 = true then (some a1) else (some 0)
set_option maxHeartbeats 8000000 in
set_option maxRecDepth 100000 in
theorem impl_flag.calls (a0 : Bool) (a1 : Int) (r : Int) (w : World) (h : impl_flag.f a0 a1 = some r) :
  Calls Try.prog 97 #[.bool a0,.int .i64 a1] w fun e w' => e = .returned (.int .i64 r) ∧ Drawn0 w w' := by
 have H : (if a0 = true then (some a1) else (some 0)) = some r := h;clear h;by_cases c3 : a0 = true;{subst c3;replace H := iT H;obtain rfl := Option.some.inj H;go_enter Try.func97,Try.ntmps97;go_wp2;go_ret;exact ⟨by first | rfl | (simp;done) | (simp [*];done),by repeat (first | exact Drawn0.refl _ | apply Drawn0.step)⟩};{replace c3 := Bool.eq_false_iff.mpr c3;subst c3;replace H := iF H;obtain rfl := Option.some.inj H;go_enter Try.func97,Try.ntmps97;go_wp2;go_ret;exact ⟨by first | rfl | (simp;done) | (simp [*];done),by repeat (first | exact Drawn0.refl _ | apply Drawn0.step)⟩}

/-! ### impl_needsExt: function 98 -/
def impl_needsExt.f (a0 : Int) : Option (Bool) := if a0 = 5 then (some true) else (if a0 = 6 then (some true) else (some (a0 == 7)))
set_option maxHeartbeats 8000000 in
set_option maxRecDepth 100000 in
theorem impl_needsExt.calls (a0 : Int) (r : Bool) (w : World) (h : impl_needsExt.f a0 = some r) :
  Calls Try.prog 98 #[.int .i64 a0] w fun e w' => e = .returned (.bool r) ∧ Drawn0 w w' := by
 have H : (if a0 = 5 then (some true) else (if a0 = 6 then (some true) else (some (a0 == 7)))) = some r := h;clear h;by_cases c2 : a0 = 5;{rw [if_pos c2] at H;obtain ⟨c2b0,c2b1⟩ := eT c2;clear c2;obtain rfl := Option.some.inj H;go_enter Try.func98,Try.ntmps98;go_wp2;go_ret;exact ⟨by first | rfl | (simp;done) | (simp [*];done),by repeat (first | exact Drawn0.refl _ | apply Drawn0.step)⟩}
 ·
  rw [if_neg c2] at H;obtain ⟨c2b0,c2b1⟩ := eF c2;by_cases c3 : a0 = 6;{rw [if_pos c3] at H;obtain ⟨c3b0,c3b1⟩ := eT c3;clear c3;obtain rfl := Option.some.inj H;go_enter Try.func98,Try.ntmps98;go_wp2;go_ret;exact ⟨by first | rfl | (simp;done) | (simp [*];done),by repeat (first | exact Drawn0.refl _ | apply Drawn0.step)⟩};{rw [if_neg c3] at H;obtain ⟨c3b0,c3b1⟩ := eF c3;obtain rfl := Option.some.inj H;go_enter Try.func98,Try.ntmps98;go_wp2;go_ret;exact ⟨by first | rfl | (simp;done) | (simp [*];done),by repeat (first | exact Drawn0.refl _ | apply Drawn0.step)⟩}

/-! ### impl_longOf: function 66 -/
def impl_longOf.f (a0 : Int) : Option (Int) := (impl_needsExt.f (Go.bits .and .i64 (a0 / 32) 7)).bind fun t101 => ((impl_flag.f t101 1).bind fun t102 => (some (wrap64 (1 + t102))))
set_option maxHeartbeats 8000000 in
set_option maxRecDepth 100000 in
theorem impl_longOf.calls (a0 : Int) (r : Int) (w : World) (h : impl_longOf.f a0 = some r) :
  Calls Try.prog 66 #[.int .i64 a0] w fun e w' => e = .returned (.int .i64 r) ∧ Drawn0 w w' := by
 have H : ((impl_needsExt.f (Go.bits .and .i64 (a0 / 32) 7)).bind fun t101 => ((impl_flag.f t101 1).bind fun t102 => (some (wrap64 (1 + t102))))) = some r := h;clear h;obtain ⟨t101,A20,H⟩ := bE H;have A2 := aS A20;clear A20;obtain ⟨t102,A30,H⟩ := bE H;have A3 := aS A30;clear A30;obtain rfl := Option.some.inj H;go_enter Try.func66,Try.ntmps66;go_wp2_with (first | ((with_reducible refine gate_callee (f := 98) rfl ?_);refine goesQ (some 6) Try.func98 #[.int .i64 (Go.bits .and .i64 (a0 / 32) 7)] (impl_needsExt.calls (Go.bits .and .i64 (a0 / 32) 7) t101 _ A2.out) fun nd => ?_) | ((with_reducible refine gate_callee (f := 97) rfl ?_);refine goesQ (some 7) Try.func97 #[.bool t101,.int .i64 1] (impl_flag.calls t101 1 t102 _ A3.out) fun nd => ?_));go_ret;exact ⟨by first | rfl | (simp;done) | (simp [*];done),by repeat (first | exact Drawn0.refl _ | apply Drawn0.step)⟩

/-! ### impl_decoded: function 67 -/
def impl_decoded.f (a0 : Int) (a1 : Int) : Option (Int × Int × Int × Int × Int × Int × Int) := (impl_longOf.f a0).bind fun t103 => (if t103 = 2 then (some (a0 / 2048,wrap64 ((Go.bits .and .i64 (a0 / 1024) 1) + 1),Go.bits .and .i64 (a0 / 256) 3,Go.bits .and .i64 (a0 / 32) 7,Go.bits .and .i64 (a0 / 8) 3,a1,Go.bits .and .i64 a0 7)) else (some (a0 / 2048,wrap64 ((Go.bits .and .i64 (a0 / 1024) 1) + 1),Go.bits .and .i64 (a0 / 256) 3,Go.bits .and .i64 (a0 / 32) 7,Go.bits .and .i64 (a0 / 8) 3,0,Go.bits .and .i64 a0 7)))
set_option maxHeartbeats 8000000 in
set_option maxRecDepth 100000 in
theorem impl_decoded.calls (a0 : Int) (a1 : Int) (r1 : Int) (r2 : Int) (r3 : Int) (r4 : Int) (r5 : Int) (r6 : Int) (r7 : Int) (w : World) (h : impl_decoded.f a0 a1 = some (r1,r2,r3,r4,r5,r6,r7)) :
  Calls Try.prog 67 #[.int .i64 a0,.int .i64 a1] w fun e w' => e = .returned (.agg #[.int .i64 r1,.int .i64 r2,.int .i64 r3,.int .i64 r4,.int .i64 r5,.int .i64 r6,.int .i64 r7]) ∧ Below w.heap.size w w' := by
 have hu49 := Try.underlying49;have hu47 := Try.underlying47;have HB := aS (Below.refl w.heap.size w);have H : ((impl_longOf.f a0).bind fun t103 => (if t103 = 2 then (some (a0 / 2048,wrap64 ((Go.bits .and .i64 (a0 / 1024) 1) + 1),Go.bits .and .i64 (a0 / 256) 3,Go.bits .and .i64 (a0 / 32) 7,Go.bits .and .i64 (a0 / 8) 3,a1,Go.bits .and .i64 a0 7)) else (some (a0 / 2048,wrap64 ((Go.bits .and .i64 (a0 / 1024) 1) + 1),Go.bits .and .i64 (a0 / 256) 3,Go.bits .and .i64 (a0 / 32) 7,Go.bits .and .i64 (a0 / 8) 3,0,Go.bits .and .i64 a0 7)))) = some (r1,r2,r3,r4,r5,r6,r7) := h;clear h;obtain ⟨t103,A30,H⟩ := bE H;have A3 := aS A30;clear A30;by_cases c4 : t103 = 2
 ·
  rw [if_pos c4] at H;obtain ⟨c4b0,c4b1⟩ := eT c4;clear c4;simp only [Option.some.injEq,Prod.mk.injEq] at H;obtain ⟨rfl,rfl,rfl,rfl,rfl,rfl,rfl⟩ := H;go_enter Try.func67,Try.ntmps67;go_wp2_with (first | ((with_reducible refine gate_dst (N := 4) rfl ?_);refine boxE (w := w) oL (cs := #[.int .i64 0,.int .i64 0,.int .i64 0,.int .i64 0,.int .i64 0,.int .i64 0,.int .i64 0]) (t := 49) ?_;clear HB;intro gb101 w5 HB BK101 GW101;have GE101 := GW101) | ((with_reducible refine gate_dst (N := 5) rfl ?_);refine box_event ?hg (N := 5) ?hd (cs := #[.int .i64 0,.int .i64 0,.int .i64 0,.int .i64 0,.int .i64 0,.int .i64 0,.int .i64 0]) (t := 49) ?hr ?_;(case hd => rfl);(case hg => rfl);(case hr => first | (go_simp;done) | (go_simp;rfl));intro gb102 hg w6 hbox hb;refine mk7 (blk_below (oB BK101.out) hb) (below_step oL hb) (hbox) ((oS hg oL : w.heap.size ≤ gb102)) ((oS hg oL : w.heap.size ≤ gb102)) ((oN hg (oB BK101.out) : gb101 ≠ gb102)) ((oM hg (oB BK101.out) : gb102 ≠ gb101)) ?_;clear BK101 HB;intro BK101 HB BK102 GW102 GE102 NB101_102 NB102_101;clear hb hbox hg;have hnb7 := NB102_101.out;have hnc7 := NB101_102.out;refine zz7 BK102.out ?_;intros) | ((with_reducible refine gate_callee (f := 66) rfl ?_);refine goesQ (some 27) Try.func66 #[.int .i64 a0] (impl_longOf.calls a0 t103 _ A3.out) fun nd => ?_;refine foldL_impl (fun W_ => W_.heap[gb102]? = some (.cells #[.int .i64 (a0 / 2048),.int .i64 (wrap64 ((Go.bits .and .i64 (a0 / 1024) 1) + 1)),.int .i64 (Go.bits .and .i64 (a0 / 256) 3),.int .i64 (Go.bits .and .i64 (a0 / 32) 7),.int .i64 (Go.bits .and .i64 (a0 / 8) 3),.int .i64 0,.int .i64 (Go.bits .and .i64 a0 7)] 49 (0,0)) ∧ W_.heap[gb101]? = some (.cells #[.int .i64 0,.int .i64 0,.int .i64 0,.int .i64 0,.int .i64 0,.int .i64 0,.int .i64 0] 49 (0,0)) ∧ Below w.heap.size w W_) ⟨oP BK102.out,oG BK101.out NB101_102.out,oL⟩ ?_;intro W_ ⟨p1,p3,p2⟩;replace BK102 := aS p1;replace BK101 := aS p3;replace HB := aS p2;clear p1 p2 p3;refine zz7 BK101.out ?_;intros;obtain ⟨hcy_0,hcy_1,hcy_2,hcy_3,hcy_4,hcy_5,hcy_6⟩ := cz7 BK102.out;obtain ⟨hfy_0,hfy_1,hfy_2,hfy_3,hfy_4,hfy_5,hfy_6⟩ := fz7 BK102.out));refine bodyPost_ret (results_cell_row rfl _ _ gb101 49 #[.int .i64 (a0 / 2048),.int .i64 (wrap64 ((Go.bits .and .i64 (a0 / 1024) 1) + 1)),.int .i64 (Go.bits .and .i64 (a0 / 256) 3),.int .i64 (Go.bits .and .i64 (a0 / 32) 7),.int .i64 (Go.bits .and .i64 (a0 / 8) 3),.int .i64 a1,.int .i64 (Go.bits .and .i64 a0 7)] (0,0) _ rfl (oP BK101.out) Try.underlying49 rfl (by kernel_rfl)) rfl ?_;exact ⟨oE,oL⟩
 ·
  rw [if_neg c4] at H;obtain ⟨c4b0,c4b1⟩ := eF c4;simp only [Option.some.injEq,Prod.mk.injEq] at H;obtain ⟨rfl,rfl,rfl,rfl,rfl,rfl,rfl⟩ := H;go_enter Try.func67,Try.ntmps67;go_wp2_with (first | ((with_reducible refine gate_dst (N := 4) rfl ?_);refine boxE (w := w) oL (cs := #[.int .i64 0,.int .i64 0,.int .i64 0,.int .i64 0,.int .i64 0,.int .i64 0,.int .i64 0]) (t := 49) ?_;clear HB;intro gb101 w10 HB BK101 GW101;have GE101 := GW101) | ((with_reducible refine gate_dst (N := 5) rfl ?_);refine box_event ?hg (N := 5) ?hd (cs := #[.int .i64 0,.int .i64 0,.int .i64 0,.int .i64 0,.int .i64 0,.int .i64 0,.int .i64 0]) (t := 49) ?hr ?_;(case hd => rfl);(case hg => rfl);(case hr => first | (go_simp;done) | (go_simp;rfl));intro gb102 hg w11 hbox hb;refine mk7 (blk_below (oB BK101.out) hb) (below_step oL hb) (hbox) ((oS hg oL : w.heap.size ≤ gb102)) ((oS hg oL : w.heap.size ≤ gb102)) ((oN hg (oB BK101.out) : gb101 ≠ gb102)) ((oM hg (oB BK101.out) : gb102 ≠ gb101)) ?_;clear BK101 HB;intro BK101 HB BK102 GW102 GE102 NB101_102 NB102_101;clear hb hbox hg;have hnb12 := NB102_101.out;have hnc12 := NB101_102.out;refine zz7 BK102.out ?_;intros) | ((with_reducible refine gate_callee (f := 66) rfl ?_);refine goesQ (some 27) Try.func66 #[.int .i64 a0] (impl_longOf.calls a0 t103 _ A3.out) fun nd => ?_;refine foldL_impl (fun W_ => W_.heap[gb102]? = some (.cells #[.int .i64 (a0 / 2048),.int .i64 (wrap64 ((Go.bits .and .i64 (a0 / 1024) 1) + 1)),.int .i64 (Go.bits .and .i64 (a0 / 256) 3),.int .i64 (Go.bits .and .i64 (a0 / 32) 7),.int .i64 (Go.bits .and .i64 (a0 / 8) 3),.int .i64 0,.int .i64 (Go.bits .and .i64 a0 7)] 49 (0,0)) ∧ W_.heap[gb101]? = some (.cells #[.int .i64 0,.int .i64 0,.int .i64 0,.int .i64 0,.int .i64 0,.int .i64 0,.int .i64 0] 49 (0,0)) ∧ Below w.heap.size w W_) ⟨oP BK102.out,oG BK101.out NB101_102.out,oL⟩ ?_;intro W_ ⟨p1,p3,p2⟩;replace BK102 := aS p1;replace BK101 := aS p3;replace HB := aS p2;clear p1 p2 p3;refine zz7 BK101.out ?_;intros;obtain ⟨hcy_0,hcy_1,hcy_2,hcy_3,hcy_4,hcy_5,hcy_6⟩ := cz7 BK102.out;obtain ⟨hfy_0,hfy_1,hfy_2,hfy_3,hfy_4,hfy_5,hfy_6⟩ := fz7 BK102.out));refine bodyPost_ret (results_cell_row rfl _ _ gb101 49 #[.int .i64 (a0 / 2048),.int .i64 (wrap64 ((Go.bits .and .i64 (a0 / 1024) 1) + 1)),.int .i64 (Go.bits .and .i64 (a0 / 256) 3),.int .i64 (Go.bits .and .i64 (a0 / 32) 7),.int .i64 (Go.bits .and .i64 (a0 / 8) 3),.int .i64 0,.int .i64 (Go.bits .and .i64 a0 7)] (0,0) _ rfl (oP BK101.out) Try.underlying49 rfl (by kernel_rfl)) rfl ?_;exact ⟨oE,oL⟩

/-! ### impl_GoodOperand: function 100 -/
def impl_GoodOperand.f (a0_0 : Int) (a0_1 : Int) (a0_2 : Int) : Option (Bool) := (impl_within.f a0_0 0 7).bind fun t102 => (if t102 = true then ((impl_isWord.f a0_2).bind fun t103 => (if t103 = true then ((impl_needsExt.f a0_0).bind fun t104 => (if t104 = true then ((impl_within.f a0_1 0 3).bind fun t105 => (if t105 = true then (if a0_1 = 0 then (some true) else (some (decide (a0_0 < 6)))) else (some false))) else (if a0_2 = 0 then ((impl_within.f a0_1 0 3).bind fun t106 => (if t106 = true then (if a0_1 = 0 then (some true) else (some (decide (a0_0 < 6)))) else (some false))) else (some false)))) else (some false))) else (some false))
set_option maxHeartbeats 8000000 in
set_option maxRecDepth 100000 in
theorem impl_GoodOperand.calls (a0_0 : Int) (a0_1 : Int) (a0_2 : Int) (r : Bool) (w : World) (h : impl_GoodOperand.f a0_0 a0_1 a0_2 = some r) :
  Calls Try.prog 100 #[.agg #[.int .i64 a0_0,.int .i64 a0_1,.int .i64 a0_2]] w fun e w' => e = .returned (.bool r) ∧ Below w.heap.size w w' := by
 have hu47 := Try.underlying47;have HB := aS (Below.refl w.heap.size w);have H : ((impl_within.f a0_0 0 7).bind fun t102 => (if t102 = true then ((impl_isWord.f a0_2).bind fun t103 => (if t103 = true then ((impl_needsExt.f a0_0).bind fun t104 => (if t104 = true then ((impl_within.f a0_1 0 3).bind fun t105 => (if t105 = true then (if a0_1 = 0 then (some true) else (some (decide (a0_0 < 6)))) else (some false))) else (if a0_2 = 0 then ((impl_within.f a0_1 0 3).bind fun t106 => (if t106 = true then (if a0_1 = 0 then (some true) else (some (decide (a0_0 < 6)))) else (some false))) else (some false)))) else (some false))) else (some false))) = some r := h;clear h;obtain ⟨t102,A20,H⟩ := bE H;have A2 := aS A20;clear A20;by_cases c3 : t102 = true
 ·
  subst c3;replace H := iT H;obtain ⟨t103,A40,H⟩ := bE H;have A4 := aS A40;clear A40;by_cases c5 : t103 = true
  ·
   subst c5;replace H := iT H;obtain ⟨t104,A60,H⟩ := bE H;have A6 := aS A60;clear A60;by_cases c7 : t104 = true
   ·
    subst c7;replace H := iT H;obtain ⟨t105,A80,H⟩ := bE H;have A8 := aS A80;clear A80;by_cases c9 : t105 = true
    ·
     subst c9;replace H := iT H;by_cases c10 : a0_1 = 0
     ·
      rw [if_pos c10] at H;obtain ⟨c10b0,c10b1⟩ := eT c10;clear c10;obtain rfl := Option.some.inj H;go_enter Try.func100,Try.ntmps100;go_wp2_with (first | ((with_reducible refine gate_dst (N := 1) rfl ?_);refine boxE (w := w) oL (cs := #[.int .i64 a0_0,.int .i64 a0_1,.int .i64 a0_2]) (t := 47) ?_;clear HB;intro gb101 w11 HB BK101 GW101;have GE101 := GW101;refine zz3 BK101.out ?_;intros) | ((with_reducible refine gate_callee (f := 29) rfl ?_);refine goesQ (some 5) Try.func29 #[.int .i64 a0_0,.int .i64 0,.int .i64 7] (impl_within.calls a0_0 0 7 true _ A2.out) fun nd => ?_) | (go_at_call 94;(with_reducible refine (impl_isWord.calls a0_2 true _ A4.out).mono ?_);rintro e w' ⟨rfl,⟨nd,rfl⟩⟩) | (go_at_call 98;(with_reducible refine (impl_needsExt.calls a0_0 true _ A6.out).mono ?_);rintro e w' ⟨rfl,⟨nd,rfl⟩⟩) | ((with_reducible refine gate_callee (f := 29) rfl ?_);refine goesQ (some 26) Try.func29 #[.int .i64 a0_1,.int .i64 0,.int .i64 3] (impl_within.calls a0_1 0 3 true _ A8.out) fun nd => ?_));go_ret;exact ⟨oE,oL⟩
     ·
      rw [if_neg c10] at H;obtain ⟨c10b0,c10b1⟩ := eF c10;obtain rfl := Option.some.inj H;go_enter Try.func100,Try.ntmps100;go_wp2_with (first | ((with_reducible refine gate_dst (N := 1) rfl ?_);refine boxE (w := w) oL (cs := #[.int .i64 a0_0,.int .i64 a0_1,.int .i64 a0_2]) (t := 47) ?_;clear HB;intro gb101 w13 HB BK101 GW101;have GE101 := GW101;refine zz3 BK101.out ?_;intros) | ((with_reducible refine gate_callee (f := 29) rfl ?_);refine goesQ (some 5) Try.func29 #[.int .i64 a0_0,.int .i64 0,.int .i64 7] (impl_within.calls a0_0 0 7 true _ A2.out) fun nd => ?_) | (go_at_call 94;(with_reducible refine (impl_isWord.calls a0_2 true _ A4.out).mono ?_);rintro e w' ⟨rfl,⟨nd,rfl⟩⟩) | (go_at_call 98;(with_reducible refine (impl_needsExt.calls a0_0 true _ A6.out).mono ?_);rintro e w' ⟨rfl,⟨nd,rfl⟩⟩) | ((with_reducible refine gate_callee (f := 29) rfl ?_);refine goesQ (some 26) Try.func29 #[.int .i64 a0_1,.int .i64 0,.int .i64 3] (impl_within.calls a0_1 0 3 true _ A8.out) fun nd => ?_));go_ret;exact ⟨oE,oL⟩
    ·
     replace c9 := Bool.eq_false_iff.mpr c9;subst c9;replace H := iF H;obtain rfl := Option.some.inj H;go_enter Try.func100,Try.ntmps100;go_wp2_with (first | ((with_reducible refine gate_dst (N := 1) rfl ?_);refine boxE (w := w) oL (cs := #[.int .i64 a0_0,.int .i64 a0_1,.int .i64 a0_2]) (t := 47) ?_;clear HB;intro gb101 w15 HB BK101 GW101;have GE101 := GW101;refine zz3 BK101.out ?_;intros) | ((with_reducible refine gate_callee (f := 29) rfl ?_);refine goesQ (some 5) Try.func29 #[.int .i64 a0_0,.int .i64 0,.int .i64 7] (impl_within.calls a0_0 0 7 true _ A2.out) fun nd => ?_) | (go_at_call 94;(with_reducible refine (impl_isWord.calls a0_2 true _ A4.out).mono ?_);rintro e w' ⟨rfl,⟨nd,rfl⟩⟩) | (go_at_call 98;(with_reducible refine (impl_needsExt.calls a0_0 true _ A6.out).mono ?_);rintro e w' ⟨rfl,⟨nd,rfl⟩⟩) | ((with_reducible refine gate_callee (f := 29) rfl ?_);refine goesQ (some 26) Try.func29 #[.int .i64 a0_1,.int .i64 0,.int .i64 3] (impl_within.calls a0_1 0 3 false _ A8.out) fun nd => ?_));go_ret;exact ⟨oE,oL⟩
   ·
    replace c7 := Bool.eq_false_iff.mpr c7;subst c7;replace H := iF H;by_cases c17 : a0_2 = 0
    ·
     rw [if_pos c17] at H;obtain ⟨c17b0,c17b1⟩ := eT c17;clear c17;obtain ⟨t106,A180,H⟩ := bE H;have A18 := aS A180;clear A180;by_cases c19 : t106 = true
     ·
      subst c19;replace H := iT H;by_cases c20 : a0_1 = 0
      ·
       rw [if_pos c20] at H;obtain ⟨c20b0,c20b1⟩ := eT c20;clear c20;obtain rfl := Option.some.inj H;go_enter Try.func100,Try.ntmps100;go_wp2_with (first | ((with_reducible refine gate_dst (N := 1) rfl ?_);refine boxE (w := w) oL (cs := #[.int .i64 a0_0,.int .i64 a0_1,.int .i64 a0_2]) (t := 47) ?_;clear HB;intro gb101 w21 HB BK101 GW101;have GE101 := GW101;refine zz3 BK101.out ?_;intros) | ((with_reducible refine gate_callee (f := 29) rfl ?_);refine goesQ (some 5) Try.func29 #[.int .i64 a0_0,.int .i64 0,.int .i64 7] (impl_within.calls a0_0 0 7 true _ A2.out) fun nd => ?_) | (go_at_call 94;(with_reducible refine (impl_isWord.calls a0_2 true _ A4.out).mono ?_);rintro e w' ⟨rfl,⟨nd,rfl⟩⟩) | (go_at_call 98;(with_reducible refine (impl_needsExt.calls a0_0 false _ A6.out).mono ?_);rintro e w' ⟨rfl,⟨nd,rfl⟩⟩) | ((with_reducible refine gate_callee (f := 29) rfl ?_);refine goesQ (some 26) Try.func29 #[.int .i64 a0_1,.int .i64 0,.int .i64 3] (impl_within.calls a0_1 0 3 true _ A18.out) fun nd => ?_));go_ret;exact ⟨oE,oL⟩
      ·
       rw [if_neg c20] at H;obtain ⟨c20b0,c20b1⟩ := eF c20;obtain rfl := Option.some.inj H;go_enter Try.func100,Try.ntmps100;go_wp2_with (first | ((with_reducible refine gate_dst (N := 1) rfl ?_);refine boxE (w := w) oL (cs := #[.int .i64 a0_0,.int .i64 a0_1,.int .i64 a0_2]) (t := 47) ?_;clear HB;intro gb101 w23 HB BK101 GW101;have GE101 := GW101;refine zz3 BK101.out ?_;intros) | ((with_reducible refine gate_callee (f := 29) rfl ?_);refine goesQ (some 5) Try.func29 #[.int .i64 a0_0,.int .i64 0,.int .i64 7] (impl_within.calls a0_0 0 7 true _ A2.out) fun nd => ?_) | (go_at_call 94;(with_reducible refine (impl_isWord.calls a0_2 true _ A4.out).mono ?_);rintro e w' ⟨rfl,⟨nd,rfl⟩⟩) | (go_at_call 98;(with_reducible refine (impl_needsExt.calls a0_0 false _ A6.out).mono ?_);rintro e w' ⟨rfl,⟨nd,rfl⟩⟩) | ((with_reducible refine gate_callee (f := 29) rfl ?_);refine goesQ (some 26) Try.func29 #[.int .i64 a0_1,.int .i64 0,.int .i64 3] (impl_within.calls a0_1 0 3 true _ A18.out) fun nd => ?_));go_ret;exact ⟨oE,oL⟩
     ·
      replace c19 := Bool.eq_false_iff.mpr c19;subst c19;replace H := iF H;obtain rfl := Option.some.inj H;go_enter Try.func100,Try.ntmps100;go_wp2_with (first | ((with_reducible refine gate_dst (N := 1) rfl ?_);refine boxE (w := w) oL (cs := #[.int .i64 a0_0,.int .i64 a0_1,.int .i64 a0_2]) (t := 47) ?_;clear HB;intro gb101 w25 HB BK101 GW101;have GE101 := GW101;refine zz3 BK101.out ?_;intros) | ((with_reducible refine gate_callee (f := 29) rfl ?_);refine goesQ (some 5) Try.func29 #[.int .i64 a0_0,.int .i64 0,.int .i64 7] (impl_within.calls a0_0 0 7 true _ A2.out) fun nd => ?_) | (go_at_call 94;(with_reducible refine (impl_isWord.calls a0_2 true _ A4.out).mono ?_);rintro e w' ⟨rfl,⟨nd,rfl⟩⟩) | (go_at_call 98;(with_reducible refine (impl_needsExt.calls a0_0 false _ A6.out).mono ?_);rintro e w' ⟨rfl,⟨nd,rfl⟩⟩) | ((with_reducible refine gate_callee (f := 29) rfl ?_);refine goesQ (some 26) Try.func29 #[.int .i64 a0_1,.int .i64 0,.int .i64 3] (impl_within.calls a0_1 0 3 false _ A18.out) fun nd => ?_));go_ret;exact ⟨oE,oL⟩
    ·
     rw [if_neg c17] at H;obtain ⟨c17b0,c17b1⟩ := eF c17;obtain rfl := Option.some.inj H;go_enter Try.func100,Try.ntmps100;go_wp2_with (first | ((with_reducible refine gate_dst (N := 1) rfl ?_);refine boxE (w := w) oL (cs := #[.int .i64 a0_0,.int .i64 a0_1,.int .i64 a0_2]) (t := 47) ?_;clear HB;intro gb101 w27 HB BK101 GW101;have GE101 := GW101;refine zz3 BK101.out ?_;intros) | ((with_reducible refine gate_callee (f := 29) rfl ?_);refine goesQ (some 5) Try.func29 #[.int .i64 a0_0,.int .i64 0,.int .i64 7] (impl_within.calls a0_0 0 7 true _ A2.out) fun nd => ?_) | (go_at_call 94;(with_reducible refine (impl_isWord.calls a0_2 true _ A4.out).mono ?_);rintro e w' ⟨rfl,⟨nd,rfl⟩⟩) | (go_at_call 98;(with_reducible refine (impl_needsExt.calls a0_0 false _ A6.out).mono ?_);rintro e w' ⟨rfl,⟨nd,rfl⟩⟩));go_ret;exact ⟨oE,oL⟩
  ·
   replace c5 := Bool.eq_false_iff.mpr c5;subst c5;replace H := iF H;obtain rfl := Option.some.inj H;go_enter Try.func100,Try.ntmps100;go_wp2_with (first | ((with_reducible refine gate_dst (N := 1) rfl ?_);refine boxE (w := w) oL (cs := #[.int .i64 a0_0,.int .i64 a0_1,.int .i64 a0_2]) (t := 47) ?_;clear HB;intro gb101 w29 HB BK101 GW101;have GE101 := GW101;refine zz3 BK101.out ?_;intros) | ((with_reducible refine gate_callee (f := 29) rfl ?_);refine goesQ (some 5) Try.func29 #[.int .i64 a0_0,.int .i64 0,.int .i64 7] (impl_within.calls a0_0 0 7 true _ A2.out) fun nd => ?_) | (go_at_call 94;(with_reducible refine (impl_isWord.calls a0_2 false _ A4.out).mono ?_);rintro e w' ⟨rfl,⟨nd,rfl⟩⟩));go_ret;exact ⟨oE,oL⟩
 ·
  replace c3 := Bool.eq_false_iff.mpr c3;subst c3;replace H := iF H;obtain rfl := Option.some.inj H;go_enter Try.func100,Try.ntmps100;go_wp2_with (first | ((with_reducible refine gate_dst (N := 1) rfl ?_);refine boxE (w := w) oL (cs := #[.int .i64 a0_0,.int .i64 a0_1,.int .i64 a0_2]) (t := 47) ?_;clear HB;intro gb101 w31 HB BK101 GW101;have GE101 := GW101;refine zz3 BK101.out ?_;intros) | ((with_reducible refine gate_callee (f := 29) rfl ?_);refine goesQ (some 5) Try.func29 #[.int .i64 a0_0,.int .i64 0,.int .i64 7] (impl_within.calls a0_0 0 7 false _ A2.out) fun nd => ?_));go_ret;exact ⟨oE,oL⟩

/-! ### impl_isMemory: function 134 -/
def impl_isMemory.f (a0 : Int) : Option (Bool) := (impl_within.f a0 2 6).bind fun t101 => (some t101)
set_option maxHeartbeats 8000000 in
set_option maxRecDepth 100000 in
theorem impl_isMemory.calls (a0 : Int) (r : Bool) (w : World) (h : impl_isMemory.f a0 = some r) :
  Calls Try.prog 134 #[.int .i64 a0] w fun e w' => e = .returned (.bool r) ∧ Drawn0 w w' := by
 have H : ((impl_within.f a0 2 6).bind fun t101 => (some t101)) = some r := h;clear h;obtain ⟨t101,A20,H⟩ := bE H;have A2 := aS A20;clear A20;obtain rfl := Option.some.inj H;go_enter Try.func134,Try.ntmps134;go_wp2_with (first | ((with_reducible refine gate_callee (f := 29) rfl ?_);refine goesQ (some 4) Try.func29 #[.int .i64 a0,.int .i64 2,.int .i64 6] (impl_within.calls a0 2 6 t101 _ A2.out) fun nd => ?_));go_ret;exact ⟨by first | rfl | (simp;done) | (simp [*];done),by repeat (first | exact Drawn0.refl _ | apply Drawn0.step)⟩

/-! ### impl_isSettable: function 124 -/
def impl_isSettable.f (a0 : Int) : Option (Bool) := if a0 = 0 then (some true) else ((impl_isMemory.f a0).bind fun t101 => (some t101))
set_option maxHeartbeats 8000000 in
set_option maxRecDepth 100000 in
theorem impl_isSettable.calls (a0 : Int) (r : Bool) (w : World) (h : impl_isSettable.f a0 = some r) :
  Calls Try.prog 124 #[.int .i64 a0] w fun e w' => e = .returned (.bool r) ∧ Drawn0 w w' := by
 have H : (if a0 = 0 then (some true) else ((impl_isMemory.f a0).bind fun t101 => (some t101))) = some r := h;clear h;by_cases c2 : a0 = 0;{rw [if_pos c2] at H;obtain ⟨c2b0,c2b1⟩ := eT c2;clear c2;obtain rfl := Option.some.inj H;go_enter Try.func124,Try.ntmps124;go_wp2;go_ret;exact ⟨by first | rfl | (simp;done) | (simp [*];done),by repeat (first | exact Drawn0.refl _ | apply Drawn0.step)⟩}
 ·
  rw [if_neg c2] at H;obtain ⟨c2b0,c2b1⟩ := eF c2;obtain ⟨t101,A30,H⟩ := bE H;have A3 := aS A30;clear A30;obtain rfl := Option.some.inj H;go_enter Try.func124,Try.ntmps124;go_wp2_with (first | (go_at_call 134;(with_reducible refine (impl_isMemory.calls a0 t101 _ A3.out).mono ?_);rintro e w' ⟨rfl,⟨nd,rfl⟩⟩));go_ret;exact ⟨by first | rfl | (simp;done) | (simp [*];done),by repeat (first | exact Drawn0.refl _ | apply Drawn0.step)⟩

/-! ### impl_isPlain: function 125 -/
def impl_isPlain.f (a0 : Int) : Option (Bool) := if a0 = 2 then (some true) else (if a0 = 5 then (some true) else (some (a0 == 6)))
set_option maxHeartbeats 8000000 in
set_option maxRecDepth 100000 in
theorem impl_isPlain.calls (a0 : Int) (r : Bool) (w : World) (h : impl_isPlain.f a0 = some r) :
  Calls Try.prog 125 #[.int .i64 a0] w fun e w' => e = .returned (.bool r) ∧ Drawn0 w w' := by
 have H : (if a0 = 2 then (some true) else (if a0 = 5 then (some true) else (some (a0 == 6)))) = some r := h;clear h;by_cases c2 : a0 = 2;{rw [if_pos c2] at H;obtain ⟨c2b0,c2b1⟩ := eT c2;clear c2;obtain rfl := Option.some.inj H;go_enter Try.func125,Try.ntmps125;go_wp2;go_ret;exact ⟨by first | rfl | (simp;done) | (simp [*];done),by repeat (first | exact Drawn0.refl _ | apply Drawn0.step)⟩}
 ·
  rw [if_neg c2] at H;obtain ⟨c2b0,c2b1⟩ := eF c2;by_cases c3 : a0 = 5;{rw [if_pos c3] at H;obtain ⟨c3b0,c3b1⟩ := eT c3;clear c3;obtain rfl := Option.some.inj H;go_enter Try.func125,Try.ntmps125;go_wp2;go_ret;exact ⟨by first | rfl | (simp;done) | (simp [*];done),by repeat (first | exact Drawn0.refl _ | apply Drawn0.step)⟩};{rw [if_neg c3] at H;obtain ⟨c3b0,c3b1⟩ := eF c3;obtain rfl := Option.some.inj H;go_enter Try.func125,Try.ntmps125;go_wp2;go_ret;exact ⟨by first | rfl | (simp;done) | (simp [*];done),by repeat (first | exact Drawn0.refl _ | apply Drawn0.step)⟩}

/-! ### impl_isNow: function 127 -/
def impl_isNow.f (a0_0 : Int) (a0_1 : Int) (a0_2 : Int) : Option (Bool) := if a0_0 = 7 then (some (decide (a0_2 ≤ 1023))) else (some false)
set_option maxHeartbeats 8000000 in
set_option maxRecDepth 100000 in
theorem impl_isNow.calls (a0_0 : Int) (a0_1 : Int) (a0_2 : Int) (r : Bool) (w : World) (h : impl_isNow.f a0_0 a0_1 a0_2 = some r) :
  Calls Try.prog 127 #[.agg #[.int .i64 a0_0,.int .i64 a0_1,.int .i64 a0_2]] w fun e w' => e = .returned (.bool r) ∧ Below w.heap.size w w' := by
 have hu47 := Try.underlying47;have HB := aS (Below.refl w.heap.size w);have H : (if a0_0 = 7 then (some (decide (a0_2 ≤ 1023))) else (some false)) = some r := h;clear h;by_cases c2 : a0_0 = 7
 ·
  rw [if_pos c2] at H;obtain ⟨c2b0,c2b1⟩ := eT c2;clear c2;obtain rfl := Option.some.inj H;go_enter Try.func127,Try.ntmps127;go_wp2_with (first | ((with_reducible refine gate_dst (N := 1) rfl ?_);refine boxE (w := w) oL (cs := #[.int .i64 a0_0,.int .i64 a0_1,.int .i64 a0_2]) (t := 47) ?_;clear HB;intro gb101 w3 HB BK101 GW101;have GE101 := GW101;refine zz3 BK101.out ?_;intros));go_ret;exact ⟨oE,oL⟩
 ·
  rw [if_neg c2] at H;obtain ⟨c2b0,c2b1⟩ := eF c2;obtain rfl := Option.some.inj H;go_enter Try.func127,Try.ntmps127;go_wp2_with (first | ((with_reducible refine gate_dst (N := 1) rfl ?_);refine boxE (w := w) oL (cs := #[.int .i64 a0_0,.int .i64 a0_1,.int .i64 a0_2]) (t := 47) ?_;clear HB;intro gb101 w5 HB BK101 GW101;have GE101 := GW101;refine zz3 BK101.out ?_;intros));go_ret;exact ⟨oE,oL⟩

/-! ### impl_isFlow: function 126 -/
def impl_isFlow.j0 : Nat → Bool → Int → Int → Int → Int → Int → Int → Int → Option (Bool)
 | 0,_,_,_,_,_,_,_,_ => none
 | k + 1,x3,x102000,x102001,x102002,x102003,x102004,x102005,x102006 => if x3 = true then (some false) else (if x102006 = 3 then (if x102002 = 0 then ((impl_isNow.f x102003 x102004 x102005).bind fun t102 => (some t102)) else (some false)) else (if x102006 < 3 then (if x102002 = 0 then (some (x102003 == 0 && (x102004 == 0 && (x102005 == 0)))) else (some false)) else (some (x102003 == 0 && (x102004 == 0 && (x102005 == 0))))))
def impl_isFlow.f (k : Nat) (a0_0 : Int) (a0_1 : Int) (a0_2 : Int) (a0_3 : Int) (a0_4 : Int) (a0_5 : Int) (a0_6 : Int) : Option (Bool) := if a0_1 = 2 then (impl_isFlow.j0 k (decide (a0_6 > 6)) a0_0 a0_1 a0_2 a0_3 a0_4 a0_5 a0_6) else (impl_isFlow.j0 k true a0_0 a0_1 a0_2 a0_3 a0_4 a0_5 a0_6)
theorem impl_isFlow.mono_l : ∀ k,(∀ y0 y1 y2 y3 y4 y5 y6 y7,LeO (impl_isFlow.j0 k y0 y1 y2 y3 y4 y5 y6 y7) (impl_isFlow.j0 (k + 1) y0 y1 y2 y3 y4 y5 y6 y7))
 | 0 => fun _ _ _ _ _ _ _ _ r h => by simp [impl_isFlow.j0] at h
 | k + 1 => by
  have ih0 := impl_isFlow.mono_l k
  ·
   intro y0 y1 y2 y3 y4 y5 y6 y7
   unfold impl_isFlow.j0
   repeat' first
   | (with_reducible exact ih0 _ _ _ _ _ _ _ _)
   | (with_reducible exact LeO.refl _)
   | (with_reducible exact LeO.none _)
   | (with_reducible refine LeO.ite ?_ ?_)
   | (with_reducible refine LeO.bind ?_ (fun _ => ?_))
theorem impl_isFlow.mono : ∀ a0 a1 a2 a3 a4 a5 a6 k,LeO (impl_isFlow.f k a0 a1 a2 a3 a4 a5 a6) (impl_isFlow.f (k + 1) a0 a1 a2 a3 a4 a5 a6) := by
 intro a0 a1 a2 a3 a4 a5 a6 k
 have ih0 := impl_isFlow.mono_l k
 unfold impl_isFlow.f
 repeat' first
   | (with_reducible exact ih0 _ _ _ _ _ _ _ _)
   | (with_reducible exact LeO.refl _)
   | (with_reducible exact LeO.none _)
   | (with_reducible refine LeO.ite ?_ ?_)
   | (with_reducible refine LeO.bind ?_ (fun _ => ?_))
set_option maxHeartbeats 8000000 in
set_option maxRecDepth 100000 in
theorem impl_isFlow.calls (k : Nat) (a0_0 : Int) (a0_1 : Int) (a0_2 : Int) (a0_3 : Int) (a0_4 : Int) (a0_5 : Int) (a0_6 : Int) (r : Bool) (w : World) (h : impl_isFlow.f k a0_0 a0_1 a0_2 a0_3 a0_4 a0_5 a0_6 = some r) :
  Calls Try.prog 126 #[.agg #[.int .i64 a0_0,.int .i64 a0_1,.int .i64 a0_2,.int .i64 a0_3,.int .i64 a0_4,.int .i64 a0_5,.int .i64 a0_6]] w fun e w' => e = .returned (.bool r) ∧ Below w.heap.size w w' := by
 have hu49 := Try.underlying49;have hu47 := Try.underlying47;have HB := aS (Below.refl w.heap.size w);have H : (if a0_1 = 2 then (impl_isFlow.j0 k (decide (a0_6 > 6)) a0_0 a0_1 a0_2 a0_3 a0_4 a0_5 a0_6) else (impl_isFlow.j0 k true a0_0 a0_1 a0_2 a0_3 a0_4 a0_5 a0_6)) = some r := h;clear h;have HC2 := aS H;clear H;go_enter Try.func126,Try.ntmps126;go_upto_region 1 with (first | ((with_reducible refine gate_dst (N := 1) rfl ?_);refine boxE (w := w) oL (cs := #[.int .i64 a0_0,.int .i64 a0_1,.int .i64 a0_2,.int .i64 a0_3,.int .i64 a0_4,.int .i64 a0_5,.int .i64 a0_6]) (t := 49) ?_;clear HB;intro gb101 w3 HB BK101 GW101;have GE101 := GW101));(try simp only [Act.put,List.setIfInBounds_toArray,List.set_cons_zero,List.set_cons_succ]);go_cut [3] (fun v3 wc => ∃ (kq : Nat) (x3_1 : Bool),v3 = .bool x3_1 ∧ Aside0 (impl_isFlow.j0 kq x3_1 a0_0 a0_1 a0_2 a0_3 a0_4 a0_5 a0_6 = some r) ∧ Aside0 (kq ≤ k) ∧ Aside0 (wc.heap[gb101]? = some (.cells #[.int .i64 a0_0,.int .i64 a0_1,.int .i64 a0_2,.int .i64 a0_3,.int .i64 a0_4,.int .i64 a0_5,.int .i64 a0_6] 49 (0,0))) ∧ Aside0 (Below w.heap.size w wc))
 case first =>
  have H := HC2.out;clear HC2;by_cases c4 : a0_1 = 2;{rw [if_pos c4] at H;obtain ⟨c4b0,c4b1⟩ := eT c4;clear c4;(first | rw [c4b0] | (simp only [i64_w,i32_w];rw [c4b0]) | skip);have H' := aS H;clear H;refine zz7 BK101.out ?_;intros;go_wp2;go_meet;case rel => exact ⟨_,(decide (a0_6 > 6)),oE,H',⟨by first | omega | exact Nat.le_refl _⟩,⟨oB BK101.out⟩,⟨oL⟩⟩};{rw [if_neg c4] at H;obtain ⟨c4b0,c4b1⟩ := eF c4;(first | rw [c4b0] | (simp only [i64_w,i32_w];rw [c4b0]) | skip);have H' := aS H;clear H;refine zz7 BK101.out ?_;intros;go_wp2;go_meet;case rel => exact ⟨_,(true),oE,H',⟨by first | omega | exact Nat.le_refl _⟩,⟨oB BK101.out⟩,⟨oL⟩⟩}
 case rest =>
  clear HC2;obtain ⟨kq,x3_1,rfl,HA,HJ1,BK101,HB⟩ := hcut;cases kq with
  | zero => exact absurd HA.out (by simp [impl_isFlow.j0])
  | succ kj1 =>
   have H := HA.out;clear HA;simp only [impl_isFlow.j0] at H;by_cases c7 : x3_1 = true;{subst c7;replace H := iT H;obtain rfl := Option.some.inj H;go_wp2;go_ret;exact ⟨oE,oL⟩}
   ·
    replace c7 := Bool.eq_false_iff.mpr c7;subst c7;replace H := iF H;by_cases c8 : a0_6 = 3
    ·
     rw [if_pos c8] at H;obtain ⟨c8b0,c8b1⟩ := eT c8;clear c8;by_cases c9 : a0_2 = 0
     ·
      rw [if_pos c9] at H;obtain ⟨c9b0,c9b1⟩ := eT c9;clear c9;obtain ⟨t102,A100,H⟩ := bE H;have A10 := aS A100;clear A100;obtain rfl := Option.some.inj H;refine zz7 BK101.out ?_;intros;go_wp2_with (first | (go_at_call 127;(with_reducible refine (impl_isNow.calls a0_3 a0_4 a0_5 t102 _ A10.out).mono ?_);rintro e w12 ⟨rfl,hb⟩;refine mk2 (blk_below (oB BK101.out) hb) (below_step oL hb) ?_;clear BK101 HB;intro BK101 HB));go_ret;exact ⟨oE,oL⟩
     · rw [if_neg c9] at H;obtain ⟨c9b0,c9b1⟩ := eF c9;obtain rfl := Option.some.inj H;refine zz7 BK101.out ?_;intros;go_wp2;go_ret;exact ⟨oE,oL⟩
    ·
     rw [if_neg c8] at H;obtain ⟨c8b0,c8b1⟩ := eF c8;by_cases c14 : a0_6 < 3
     ·
      rw [if_pos c14] at H;have c14b0 : decide (a0_6 < 3) = true := decide_eq_true c14;clear c14;by_cases c15 : a0_2 = 0;{rw [if_pos c15] at H;obtain ⟨c15b0,c15b1⟩ := eT c15;clear c15;obtain rfl := Option.some.inj H;refine zz7 BK101.out ?_;intros;go_wp2;go_ret;exact ⟨oE,oL⟩};{rw [if_neg c15] at H;obtain ⟨c15b0,c15b1⟩ := eF c15;obtain rfl := Option.some.inj H;refine zz7 BK101.out ?_;intros;go_wp2;go_ret;exact ⟨oE,oL⟩}
     · rw [if_neg c14] at H;have c14b0 : decide (a0_6 < 3) = false := decide_eq_false c14;clear c14;obtain rfl := Option.some.inj H;refine zz7 BK101.out ?_;intros;go_wp2;go_ret;exact ⟨oE,oL⟩

end Go.Proofs.Ytapfngfaiojmhaa.R
