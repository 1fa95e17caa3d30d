-- Made by this session's program gprint.py out of the translation. Not trusted: Lean checks it.
import Derived.Test.YthlhapafipikmaaEx0
import Derived.Test.YthlhapafipikmaaEx13
import Derived.Test.YthlhapafipikmaaEx21
import Derived.Test.YthlhapafipikmaaEx22
import Derived.Test.YthlhapafipikmaaEx23
import Derived.Test.YthlhapafipikmaaEx26
import Derived.Test.YthlhapafipikmaaEx28
import Derived.Test.YthlhapafipikmaaEx29
namespace Go.Proofs.Ythlhapafipikmaa.E
open Go.RowKit Go.Proofs.YthlhapafipikmaaW.PrintWords Go.Proofs.YthlhapafipikmaaW.PrintLast Go.Proofs.YthlhapafipikmaaW.PrintMore
attribute [local go_sem] max2_int min2_int max_two min_two max_three min_three max_four min_four   -- for this text's walks alone
set_option linter.unusedVariables false
set_option linter.unusedSimpArgs false

/-! ### impl_EnterFault: function 18 (by hand) -/
abbrev ipushAt (A : List Int) : Int := Go.bits .and .i64 (wrap64 (rd A 3 - 2)) 65535
def ipushStep (k : Nat) (v : Int) (s : List Int × List Int × List S115 × Int) : Option (List Int × List Int × List S115 × Int) :=
  if s.2.2.2 = 0 then (impl_codeOf.f k 2 2 (ipushAt s.1)).bind fun c => if 3 < s.1.length ∧ (0 ≤ ipushAt s.1 ∧ ipushAt s.1 ≤ 65535) ∧ (c = 0 → ipushAt s.1 + 1 < (s.2.1.length : Int)) then
    some ((if c = 0 then s.1.set 3 (ipushAt s.1) else s.1),ichM 2 c v (ipushAt s.1) s.2.1,ichL 2 c v (ipushAt s.1) s.2.1 s.2.2.1,c) else none
  else some s
def ipushAll (k : Nat) : List Int → List Int × List Int × List S115 × Int → Option (List Int × List Int × List S115 × Int)
  | [],s => some s
  | v :: vs,s => (ipushStep k v s).bind (ipushAll k vs)
abbrev ienSt (t : Int) : Int := Go.bits .or .i64 (Go.bits .andNot .i64 t 512) 256
abbrev ienSv (st : Int) : Bool := Go.bits .and .i64 st 256 != 0
def iwithA (sv b6 : Bool) (A : List Int) (i2 : Int) : List Int := if sv = b6 then A else A.set 3 i2
def iwithO (sv b6 : Bool) (A : List Int) (i2 : Int) : Int := if sv = b6 then i2 else rd A 3
abbrev ivecAt (vec : Int) : Int := wrap64 (2 * vec)
def ienterO (k : Nat) (D A : List Int) (i2 i3 i4 i5 : Int) (b6 b7 : Bool) (B : List Int) (L : List S115) (fr : List Int) (vec t : Int) (b11 : Bool) : Option (List Int × List Int × Int × Int × Int × Int × Bool × Bool × List Int × List S115 × Bool × Bool) :=
  if 3 < A.length ∧ 0 < B.length ∧ 0 < fr.length ∧ fr.length ≤ 5 then (ipushAll k fr (iwithA (ienSv (ienSt t)) b6 A i2,B,L,0)).bind fun s =>
    if s.2.2.2 = 0 then (impl_codeOf.f k 1 2 (ivecAt vec)).bind fun c => if (0 ≤ ivecAt vec ∧ ivecAt vec ≤ 65535) ∧ (c = 0 → ivecAt vec + 1 < (s.2.1.length : Int)) then
        some (D,s.1,iwithO (ienSv (ienSt t)) b6 A i2,(if c = 0 then ichV (ivecAt vec) s.2.1 else i3),Go.bits .and .i64 (ienSt t) 31,Go.bits .and .i64 (ienSt t / 32) 7,ienSv (ienSt t),(Go.bits .and .i64 (ienSt t) 512 != 0),s.2.1,ichL 1 c 0 (ivecAt vec) s.2.1 s.2.2.1,false,(if c = 0 then b11 else true))
      else none
    else some (D,s.1,iwithO (ienSv (ienSt t)) b6 A i2,i3,Go.bits .and .i64 (ienSt t) 31,Go.bits .and .i64 (ienSt t / 32) 7,ienSv (ienSt t),(Go.bits .and .i64 (ienSt t) 512 != 0),s.2.1,s.2.2.1,false,true)
  else none
section
variable {W : World} {base g : Nat} {AD AA AL : Option Addr} {b1 cD cA cB cL : Nat} {D A : List Int} {i2 i3 i4 i5 : Int} {b6 b7 : Bool} {B : List Int} {L : List S115} {b10 b11 : Bool}
theorem IS.touch2 (kk : Nat) {kind addr value code : Int} (hS : IS W base g AD AA AL b1 cD cA cB cL D A i2 i3 i4 i5 b6 b7 B L b10 b11)
    (hk : impl_codeOf.f kk kind 2 addr = some code) (ha : 0 ≤ addr) (ha2 : addr ≤ 65535) (hkd : kind = 1 ∨ kind = 2 ∨ kind = 3) (hr : code = 0 → addr + 1 < (B.length : Int)) :
    Calls Try.prog 64 #[.pointer (some ⟨g,8,none⟩),.int .i64 kind,.int .i64 2,.int .i64 addr,.int .i64 value] W fun e w' => e = .returned (.tuple #[.int .i64 (ichR kind code addr B),.int .i64 code]) ∧
      (∃ AL' cL',IS w' base g AD AA AL' b1 cD cA cB cL' D A i2 i3 i4 i5 b6 b7 (ichM kind code value addr B) (ichL kind code value addr B L) b10 b11) ∧ Below base W w' ∧ FrM W w' g ∧ Ints W w' b1 AA := by
  obtain ⟨hg,hbg,hbw,hD,hA,hB,hL⟩ := hS
  refine (impl_touch.T kk kind addr value code B L W base g 8 36 cB cL _ b1 AL _ _ hg rfl rfl (by decide) hbg hbw hB hL hk ha ha2 hkd hr).mono ?_
  rintro e w' ⟨vL',rfl,h1,h2,h3,h4,h5⟩
  obtain ⟨AL',cL',rfl⟩ := Kd.R_slice h3
  have eB : (ichM kind code value addr B).length = B.length := by unfold ichM;split <;> simp
  obtain ⟨c1,hc1⟩ := Kd.R_typed hB b1 (by simp [Value.ownBlock])
  refine ⟨rfl,⟨AL',cL',?_,hbg,Nat.le_trans hbw h5.1,?_,?_,?_,Kd.R_mono h3 (fun _ _ => trivial)⟩,h4,⟨h5.1,fun k cells t a b d e => h5.blk e a hc1 b (Kd.R_typed hL) d⟩,h5.1,fun k cells a _ e => (h5.2 k (blk_lt e) ?_ a ?_).trans e⟩
  · rw [h1,eB];rfl
  · exact KeepX.R h5 hD hg (by decide) (Kd.R_typed hL) (by decide) (fun k hk => hk.2)
  · exact KeepX.R h5 hA hg (by decide) (Kd.R_typed hL) (by decide) (fun k hk => hk.2)
  · rw [eB];exact h2
  · rintro rfl;rw [hg] at e;injection e with e;injection e with _ e;exact absurd e (by decide)
  · intro h;obtain ⟨c',hc'⟩ := Kd.R_typed hL k h.symm;rw [hc'] at e;injection e with e;injection e with _ e;exact absurd e (by decide)
theorem IS.setA {pA : Nat} (hS : IS W base g AD (some ⟨pA,0,none⟩) AL b1 cD cA cB cL D A i2 i3 i4 i5 b6 b7 B L b10 b11) (i a : Int) :
    IS (W.setCell ⟨pA,i.toNat,none⟩ (.int .i64 a)) base g AD (some ⟨pA,0,none⟩) AL b1 cD cA cB cL D (A.set i.toNat a) i2 i3 i4 i5 b6 b7 B L b10 b11 ∧ Below base W (W.setCell ⟨pA,i.toNat,none⟩ (.int .i64 a)) ∧ FrM W (W.setCell ⟨pA,i.toNat,none⟩ (.int .i64 a)) g := by
  obtain ⟨hg,hbg,hbw,hD,hA,hB,hL⟩ := hS
  have hP := (Kd.R_putg hA i a).1
  have hbA := (Kd.R_bound hA).1 pA (by simp [Value.ownBlock])
  obtain ⟨cA',hcA⟩ := Kd.R_typed hA pA (by simp [Value.ownBlock])
  have hne : g ≠ pA := by rintro rfl;rw [hcA] at hg;injection hg with hg;injection hg with _ hg;exact absurd hg (by decide)
  have hst : ∀ k,k ≠ pA → (W.setCell ⟨pA,i.toNat,none⟩ (.int .i64 a)).heap[k]? = W.heap[k]? := fun k hk => Below.heap_setCell W ⟨pA,i.toNat,none⟩ _ k hk
  refine ⟨⟨?_,hbg,by simpa [World.setCell] using hbw,?_,by rw [List.length_set];exact hP,?_,?_⟩,bsC (Below.refl _ _) hbA.2.1,by simp [World.setCell],?_⟩
  · rw [hst g hne,hg,List.length_set]
  · rw [List.length_set];exact Kd.R_step hD (fun k hk _ => hst k (fun e => hk.1 (by rw [e];rfl)))
  · rw [List.length_set];exact Kd.R_step hB (fun k hk _ => hst k (fun e => hk.2 (by rw [e];rfl)))
  · exact oF hL hcA (by decide)
  · intro k cells t a1 a2 a3 a4
    refine (hst k ?_).trans a4
    rintro rfl;rw [hcA] at a4;injection a4 with a4;injection a4 with _ a4;exact a2 a4.symm
theorem IS.formA (hS : IS W base g AD AA AL b1 cD cA cB cL D A i2 i3 i4 i5 b6 b7 B L b10 b11) (h : 0 < A.length) : ∃ pA,AA = some ⟨pA,0,none⟩ := by
  obtain ⟨gA,cap,e,-⟩ := Kd.R_form hS.2.2.2.2.1 h
  injection e with e
  exact ⟨gA,e⟩
theorem IS.cellA {pA : Nat} (hS : IS W base g AD (some ⟨pA,0,none⟩) AL b1 cD cA cB cL D A i2 i3 i4 i5 b6 b7 B L b10 b11) (i : Int) (h0 : 0 ≤ i) (h : i < A.length) : W.cell? ⟨pA,i.toNat,none⟩ = some (.int .i64 (rd A i)) ∧ W.frozen? ⟨pA,i.toNat,none⟩ = false ∧ g ≠ pA := by
  obtain ⟨x,y⟩ := Kd.R_celln 0 hS.2.2.2.2.1 i h0 h
  obtain ⟨cA',hcA⟩ := Kd.R_typed hS.2.2.2.2.1 pA (by simp [Value.ownBlock])
  refine ⟨x,y,?_⟩
  rintro rfl;have hg := hS.1;rw [hcA] at hg;injection hg with hg;injection hg with _ hg;exact absurd hg (by decide)
theorem IS.lts {pA : Nat} (hS : IS W base g AD (some ⟨pA,0,none⟩) AL b1 cD cA cB cL D A i2 i3 i4 i5 b6 b7 B L b10 b11) : b1 < W.heap.size ∧ pA < W.heap.size := by
  obtain ⟨c1,h1⟩ := Kd.R_typed hS.2.2.2.2.1 pA (by simp [Value.ownBlock])
  obtain ⟨c2,h2⟩ := Kd.R_typed hS.2.2.2.2.2.1 b1 (by simp [Value.ownBlock])
  exact ⟨blk_lt h2,blk_lt h1⟩
theorem IS.reads (hS : IS W base g AD AA AL b1 cD cA cB cL D A i2 i3 i4 i5 b6 b7 B L b10 b11) : (Kd.C (Kd.int .i64) W AD D.length D ∧ D.length ≤ cD) ∧ (Kd.C (Kd.int .i64) W AA A.length A ∧ A.length ≤ cA) ∧ (Kd.C (Kd.int .i64) W (some ⟨b1,0,none⟩) B.length B ∧ B.length ≤ cB) ∧ (Kd.C k115 W AL L.length L ∧ L.length ≤ cL) := by
  obtain ⟨hg,hbg,hbw,hD,hA,hB,hL⟩ := hS
  exact ⟨⟨(Kd.R_reads' hD).2.2,(Kd.R_reads' hD).2.1⟩,⟨(Kd.R_reads' hA).2.2,(Kd.R_reads' hA).2.1⟩,⟨(Kd.R_reads' hB).2.2,(Kd.R_reads' hB).2.1⟩,⟨(Kd.R_reads' hL).2.2,(Kd.R_reads' hL).2.1⟩⟩
end
set_option maxHeartbeats 8000000 in
set_option maxRecDepth 100000 in
theorem IS.push2 (kk : Nat) {W : World} {base g : Nat} {AD AL : Option Addr} {b1 cD cA cB cL : Nat} {D A : List Int} {i2 i3 i4 i5 : Int} {b6 b7 : Bool} {B : List Int} {L : List S115} {b10 b11 : Bool} {pA : Nat} {v code : Int} (hS : IS W base g AD (some ⟨pA,0,none⟩) AL b1 cD cA cB cL D A i2 i3 i4 i5 b6 b7 B L b10 b11) (hA4 : 3 < A.length)
    (hk : impl_codeOf.f kk 2 2 (ipushAt A) = some code) (ha : 0 ≤ ipushAt A) (ha2 : ipushAt A ≤ 65535) (hr : code = 0 → ipushAt A + 1 < (B.length : Int)) :
    Calls Try.prog 44 #[.pointer (some ⟨g,0,none⟩),.int .i64 v] W fun e w' => (∃ u,e = .returned (.tuple #[u,.int .i64 code])) ∧
      (∃ AL' cL',IS w' base g AD (some ⟨pA,0,none⟩) AL' b1 cD cA cB cL' D (if code = 0 then A.set 3 (ipushAt A) else A) i2 i3 i4 i5 b6 b7 (ichM 2 code v (ipushAt A) B) (ichL 2 code v (ipushAt A) B L) b10 b11) ∧ Below base W w' ∧ FrM W w' g ∧ Ints W w' b1 (some ⟨pA,0,none⟩) := by
  have hu36 := Try.underlying36
  have hu31 := Try.underlying31
  obtain ⟨hx,hf,hn⟩ := hS.cellA 3 (by omega) (by omega)
  have hn' : pA ≠ g := Ne.symm hn
  simp only [show (3 : Int).toNat = 3 from rfl] at hx hf
  have q0 : ((3 : Int) < (A.length : Int)) = True := eq_true (by omega)
  have q1 : (3 < A.length) = True := eq_true hA4
  have hbg := hS.2.1
  refine zz12 hS.1 ?_
  intros
  by_cases c2 : code = 0
  · subst c2
    go_enter Try.func44,Try.ntmps44
    go_wp2_with (first | (go_at_call 64;go_loud (refine (IS.touch2 kk hS hk ha ha2 (.inr (.inl rfl)) hr).mono ?_;rintro e w1 ⟨rfl,⟨AL',cL',hS1⟩,hb1,hf1,hi1⟩;obtain ⟨hx1,hf2,-⟩ := hS1.cellA 3 (by omega) (by omega);simp only [show (3 : Int).toNat = 3 from rfl] at hx1 hf2;refine zz12 hS1.box ?_;intros)))
    refine bodyPost_ret (results_list (rs := [.tmp 4,.tmp 5]) (vs := [_,_]) rfl (by simp) (.tmp (.tmp .nil))) rfl ?_
    obtain ⟨h1,h2,h3⟩ := hS1.setA 3 (ipushAt A)
    refine ⟨⟨_,by first | rfl | (simp;done)⟩,⟨AL',cL',?_⟩,hb1.trans h2,hf1.trans h3,by simpa [World.setCell] using hi1.1,fun k cells a b e => (Below.heap_setCell _ ⟨pA,(3 : Int).toNat,none⟩ _ k (b ⟨pA,0,none⟩ rfl)).trans (hi1.2 k cells a b e)⟩
    first | exact h1 | (rw [if_pos rfl];exact h1)
  · obtain ⟨d0,d1⟩ := eF c2
    go_enter Try.func44,Try.ntmps44
    go_wp2_with (first | (go_at_call 64;go_loud (refine (IS.touch2 kk hS hk ha ha2 (.inr (.inl rfl)) hr).mono ?_;rintro e w1 ⟨rfl,⟨AL',cL',hS1⟩,hb1,hf1,hi1⟩;obtain ⟨hx1,hf2,-⟩ := hS1.cellA 3 (by omega) (by omega);simp only [show (3 : Int).toNat = 3 from rfl] at hx1 hf2;refine zz12 hS1.box ?_;intros)))
    refine bodyPost_ret (results_list (rs := [.tmp 4,.tmp 5]) (vs := [_,_]) rfl (by simp) (.tmp (.tmp .nil))) rfl ?_
    refine ⟨⟨_,by first | rfl | (simp;done)⟩,⟨AL',cL',?_⟩,hb1,hf1,hi1⟩
    first | exact hS1 | (rw [if_neg c2];exact hS1)
set_option maxHeartbeats 8000000 in
set_option maxRecDepth 100000 in
theorem IS.setStatus {W : World} {base g : Nat} {AD AL : Option Addr} {b1 cD cA cB cL : Nat} {D A : List Int} {i2 i3 i4 i5 : Int} {b6 b7 : Bool} {B : List Int} {L : List S115} {b10 b11 : Bool} {pA : Nat} (s : Int) (sv : Bool) (hsv : (Go.bits .and .i64 s 256 != 0) = sv) (hS : IS W base g AD (some ⟨pA,0,none⟩) AL b1 cD cA cB cL D A i2 i3 i4 i5 b6 b7 B L b10 b11) (hA4 : 3 < A.length) :
    Calls Try.prog 78 #[.pointer (some ⟨g,0,none⟩),.int .i64 s] W fun e w' => (∃ u,e = .returned u) ∧ IS w' base g AD (some ⟨pA,0,none⟩) AL b1 cD cA cB cL D (iwithA sv b6 A i2) (iwithO sv b6 A i2) i3 (Go.bits .and .i64 s 31) (Go.bits .and .i64 (s / 32) 7) sv (Go.bits .and .i64 s 512 != 0) B L b10 b11 ∧ Below base W w' ∧ FrM W w' g ∧ Ints W w' b1 (some ⟨pA,0,none⟩) := by
  have hu31 := Try.underlying31
  have hu36 := Try.underlying36
  have hbg := hS.2.1
  have q0 : ((3 : Int) < (A.length : Int)) = True := eq_true (by omega)
  have q1 : (3 < A.length) = True := eq_true hA4
  have hn := (hS.cellA 3 (by omega) (by omega)).2.2
  have hn' := Ne.symm hn
  refine zz12 hS.box ?_
  intros
  cases sv <;> cases b6
  · go_enter Try.func78,Try.ntmps78
    go_wp2_with fail
    go_end0
    refine ⟨⟨_,rfl⟩,?_,(by repeat (with_reducible first | exact Below.refl _ _ | apply pw_below_drewN | apply below_drew1 | refine bsC ?_ hbg)),(by repeat (with_reducible first | exact FrM.refl _ _ | apply FrM.set | apply FrM.drewN)),?_⟩
    · rw [show iwithA false false A i2 = A from rfl,show iwithO false false A i2 = i2 from rfl];exact hS.cells _ (by repeat (with_reducible first | exact keep_refl _ _ | apply keep_put | apply keep_drewN | apply keep_drew)) (oP hS.box)
    · exact Ints.refl.keep hS.box (by decide) (by repeat (with_reducible first | exact keep_refl _ _ | apply keep_put | apply keep_drewN | apply keep_drew))
  · go_enter Try.func78,Try.ntmps78
    go_wp2_with fail
    refine genWorld (fun W' => IS W' base g AD (some ⟨pA,0,none⟩) AL b1 cD cA cB cL D A i2 i3 (Go.bits .and .i64 s 31) (Go.bits .and .i64 (s / 32) 7) false (Go.bits .and .i64 s 512 != 0) B L b10 b11 ∧ Below base W W' ∧ FrM W W' g ∧ Ints W W' b1 (some ⟨pA,0,none⟩)) ⟨hS.cells _ (by repeat (with_reducible first | exact keep_refl _ _ | apply keep_put | apply keep_drewN | apply keep_drew)) (oP hS.box),(by repeat (with_reducible first | exact Below.refl _ _ | apply pw_below_drewN | apply below_drew1 | refine bsC ?_ hbg)),(by repeat (with_reducible first | exact FrM.refl _ _ | apply FrM.set | apply FrM.drewN)),Ints.refl.keep hS.box (by decide) (by repeat (with_reducible first | exact keep_refl _ _ | apply keep_put | apply keep_drewN | apply keep_drew))⟩ ?_
    rintro w1 ⟨hS1,hb1,hf1,hi1⟩
    have hS2 := hS1.cells w1.drew (by repeat (with_reducible first | exact keep_refl _ _ | apply keep_put | apply keep_drewN | apply keep_drew)) (blk_drew hS1.box)
    replace hb1 := below_drew1 hb1
    replace hf1 : FrM W w1.drew g := hf1
    replace hi1 : Ints W w1.drew b1 (some ⟨pA,0,none⟩) := hi1
    clear hS1
    have hc : ∀ W' : World,IS W' base g AD (some ⟨pA,0,none⟩) AL b1 cD cA cB cL D A i2 i3 (Go.bits .and .i64 s 31) (Go.bits .and .i64 (s / 32) 7) false (Go.bits .and .i64 s 512 != 0) B L b10 b11 → W'.cell? ⟨g,1,none⟩ = some (.slice (some ⟨pA,0,none⟩) A.length cA) ∧ W'.cell? ⟨g,2,none⟩ = some (.int .i64 i2) ∧ W'.cell? ⟨pA,3,none⟩ = some (.int .i64 (rd A 3)) := fun W' h_ => ⟨(blk_cell h_.box 1).trans rfl,(blk_cell h_.box 2).trans rfl,(h_.cellA 3 (by omega) (by omega)).1⟩
    refine start_ (n := 20) (S := fun w' => w'.cell? ⟨g,1,none⟩ = some (.slice (some ⟨pA,0,none⟩) A.length cA) ∧ w'.cell? ⟨g,2,none⟩ = some (.int .i64 i2) ∧ w'.cell? ⟨pA,3,none⟩ = some (.int .i64 (rd A 3))) (ds := [16,19]) (bA 20 0) (by kernel_rfl) rfl rfl (hc _ hS2) (fun hHeld => ?_)
    generalize w1.drew = w2 at hS2 hb1 hf1 hi1 hHeld ⊢
    obtain ⟨hx,hf,hn⟩ := hS2.cellA 3 (by omega) (by omega)
    simp only [show (3 : Int).toNat = 3 from rfl] at hx hf
    refine pB 0 35 1 ?_
    refine pB 1 36 3 ?_
    refine pB 2 37 7 ?_
    refine tB 3 38 15 ?_
    refine pB 4 39 31 ?_
    refine pB 5 40 63 ?_
    refine pB 6 41 127 ?_
    refine pB 7 42 255 ?_
    refine tB 8 43 511 ?_
    refine pB 9 44 1023 ?_
    refine pB 10 45 2047 ?_
    refine pB 11 46 4095 ?_
    refine tB 12 47 8191 ?_
    refine pB 13 48 16383 ?_
    refine tB 14 49 32767 ?_
    refine pB 15 50 65535 ?_
    refine last_ (i := 16) (N := none) (bA 20 131071) (hi := by rfl) (hN := by rfl) (hc := by kernel_rfl) (hd := by decide) (h := ?_)
    intro K hK
    refine skip_ (w1 := ?_) (by rfl) rfl ?_ ?_
    rotate_left
    · go_simp;rfl
    refine hK.out _ _ ?_
    clear hK K hHeld
    obtain ⟨s1,s2,s3⟩ := hS2.setA 3 i2
    refine genWorldA (fun W' => IS W' base g AD (some ⟨pA,0,none⟩) AL b1 cD cA cB cL D (A.set 3 i2) i2 i3 (Go.bits .and .i64 s 31) (Go.bits .and .i64 (s / 32) 7) false (Go.bits .and .i64 s 512 != 0) B L b10 b11 ∧ Below base W W' ∧ FrM W W' g ∧ Ints W W' b1 (some ⟨pA,0,none⟩)) ⟨s1,hb1.trans s2,hf1.trans s3,by simpa [World.setCell] using hi1.1,fun k cells a b e => (Below.heap_setCell _ ⟨pA,3,none⟩ _ k (b ⟨pA,0,none⟩ rfl)).trans (hi1.2 k cells a b e)⟩ ?_
    clear s1 s2 s3 hS2 hb1 hf1 hi1 hx hf
    rintro w3 ⟨hS3,hb3,hf3,hi3⟩
    refine pB 17 51 262143 ?_
    refine pB 18 52 524287 ?_
    refine zz12 hS3.box ?_
    intros
    refine last_ (i := 19) (N := none) (bA 20 1048575) (hi := by rfl) (hN := by rfl) (hc := by kernel_rfl) (hd := by decide) (h := ?_)
    intro K hK
    refine skip_ (w1 := ?_) (by rfl) rfl ?_ ?_
    rotate_left
    · go_simp;rfl
    refine hK.out _ _ ?_
    clear hK K
    refine done_ (by kernel_rfl) ?_
    go_wp2
    go_end0
    refine ⟨⟨_,rfl⟩,?_,by repeat (with_reducible first | exact hb3 | refine bsC ?_ hbg),by repeat (with_reducible first | exact hf3 | apply FrM.set),hi3.keep hS3.box (by decide) (by repeat (with_reducible first | exact keep_refl _ _ | apply keep_put | apply keep_drewN | apply keep_drew))⟩
    rw [show iwithA false true A i2 = A.set 3 i2 from rfl,show iwithO false true A i2 = rd A 3 from rfl]
    exact hS3.cells _ (by repeat (with_reducible first | exact keep_refl _ _ | apply keep_put | apply keep_drewN | apply keep_drew)) (oP hS3.box)
  · go_enter Try.func78,Try.ntmps78
    go_wp2_with fail
    refine genWorld (fun W' => IS W' base g AD (some ⟨pA,0,none⟩) AL b1 cD cA cB cL D A i2 i3 (Go.bits .and .i64 s 31) (Go.bits .and .i64 (s / 32) 7) true (Go.bits .and .i64 s 512 != 0) B L b10 b11 ∧ Below base W W' ∧ FrM W W' g ∧ Ints W W' b1 (some ⟨pA,0,none⟩)) ⟨hS.cells _ (by repeat (with_reducible first | exact keep_refl _ _ | apply keep_put | apply keep_drewN | apply keep_drew)) (oP hS.box),(by repeat (with_reducible first | exact Below.refl _ _ | apply pw_below_drewN | apply below_drew1 | refine bsC ?_ hbg)),(by repeat (with_reducible first | exact FrM.refl _ _ | apply FrM.set | apply FrM.drewN)),Ints.refl.keep hS.box (by decide) (by repeat (with_reducible first | exact keep_refl _ _ | apply keep_put | apply keep_drewN | apply keep_drew))⟩ ?_
    rintro w1 ⟨hS1,hb1,hf1,hi1⟩
    have hS2 := hS1.cells w1.drew (by repeat (with_reducible first | exact keep_refl _ _ | apply keep_put | apply keep_drewN | apply keep_drew)) (blk_drew hS1.box)
    replace hb1 := below_drew1 hb1
    replace hf1 : FrM W w1.drew g := hf1
    replace hi1 : Ints W w1.drew b1 (some ⟨pA,0,none⟩) := hi1
    clear hS1
    have hc : ∀ W' : World,IS W' base g AD (some ⟨pA,0,none⟩) AL b1 cD cA cB cL D A i2 i3 (Go.bits .and .i64 s 31) (Go.bits .and .i64 (s / 32) 7) true (Go.bits .and .i64 s 512 != 0) B L b10 b11 → W'.cell? ⟨g,1,none⟩ = some (.slice (some ⟨pA,0,none⟩) A.length cA) ∧ W'.cell? ⟨g,2,none⟩ = some (.int .i64 i2) ∧ W'.cell? ⟨pA,3,none⟩ = some (.int .i64 (rd A 3)) := fun W' h_ => ⟨(blk_cell h_.box 1).trans rfl,(blk_cell h_.box 2).trans rfl,(h_.cellA 3 (by omega) (by omega)).1⟩
    refine start_ (n := 20) (S := fun w' => w'.cell? ⟨g,1,none⟩ = some (.slice (some ⟨pA,0,none⟩) A.length cA) ∧ w'.cell? ⟨g,2,none⟩ = some (.int .i64 i2) ∧ w'.cell? ⟨pA,3,none⟩ = some (.int .i64 (rd A 3))) (ds := [16,19]) (bA 20 0) (by kernel_rfl) rfl rfl (hc _ hS2) (fun hHeld => ?_)
    generalize w1.drew = w2 at hS2 hb1 hf1 hi1 hHeld ⊢
    obtain ⟨hx,hf,hn⟩ := hS2.cellA 3 (by omega) (by omega)
    simp only [show (3 : Int).toNat = 3 from rfl] at hx hf
    refine pB 0 35 1 ?_
    refine pB 1 36 3 ?_
    refine pB 2 37 7 ?_
    refine tB 3 38 15 ?_
    refine pB 4 39 31 ?_
    refine pB 5 40 63 ?_
    refine pB 6 41 127 ?_
    refine pB 7 42 255 ?_
    refine tB 8 43 511 ?_
    refine pB 9 44 1023 ?_
    refine pB 10 45 2047 ?_
    refine pB 11 46 4095 ?_
    refine tB 12 47 8191 ?_
    refine pB 13 48 16383 ?_
    refine tB 14 49 32767 ?_
    refine pB 15 50 65535 ?_
    refine last_ (i := 16) (N := none) (bA 20 131071) (hi := by rfl) (hN := by rfl) (hc := by kernel_rfl) (hd := by decide) (h := ?_)
    intro K hK
    refine skip_ (w1 := ?_) (by rfl) rfl ?_ ?_
    rotate_left
    · go_simp;rfl
    refine hK.out _ _ ?_
    clear hK K hHeld
    obtain ⟨s1,s2,s3⟩ := hS2.setA 3 i2
    refine genWorldA (fun W' => IS W' base g AD (some ⟨pA,0,none⟩) AL b1 cD cA cB cL D (A.set 3 i2) i2 i3 (Go.bits .and .i64 s 31) (Go.bits .and .i64 (s / 32) 7) true (Go.bits .and .i64 s 512 != 0) B L b10 b11 ∧ Below base W W' ∧ FrM W W' g ∧ Ints W W' b1 (some ⟨pA,0,none⟩)) ⟨s1,hb1.trans s2,hf1.trans s3,by simpa [World.setCell] using hi1.1,fun k cells a b e => (Below.heap_setCell _ ⟨pA,3,none⟩ _ k (b ⟨pA,0,none⟩ rfl)).trans (hi1.2 k cells a b e)⟩ ?_
    clear s1 s2 s3 hS2 hb1 hf1 hi1 hx hf
    rintro w3 ⟨hS3,hb3,hf3,hi3⟩
    refine pB 17 51 262143 ?_
    refine pB 18 52 524287 ?_
    refine zz12 hS3.box ?_
    intros
    refine last_ (i := 19) (N := none) (bA 20 1048575) (hi := by rfl) (hN := by rfl) (hc := by kernel_rfl) (hd := by decide) (h := ?_)
    intro K hK
    refine skip_ (w1 := ?_) (by rfl) rfl ?_ ?_
    rotate_left
    · go_simp;rfl
    refine hK.out _ _ ?_
    clear hK K
    refine done_ (by kernel_rfl) ?_
    go_wp2
    go_end0
    refine ⟨⟨_,rfl⟩,?_,by repeat (with_reducible first | exact hb3 | refine bsC ?_ hbg),by repeat (with_reducible first | exact hf3 | apply FrM.set),hi3.keep hS3.box (by decide) (by repeat (with_reducible first | exact keep_refl _ _ | apply keep_put | apply keep_drewN | apply keep_drew))⟩
    rw [show iwithA true false A i2 = A.set 3 i2 from rfl,show iwithO true false A i2 = rd A 3 from rfl]
    exact hS3.cells _ (by repeat (with_reducible first | exact keep_refl _ _ | apply keep_put | apply keep_drewN | apply keep_drew)) (oP hS3.box)
  · go_enter Try.func78,Try.ntmps78
    go_wp2_with fail
    go_end0
    refine ⟨⟨_,rfl⟩,?_,(by repeat (with_reducible first | exact Below.refl _ _ | apply pw_below_drewN | apply below_drew1 | refine bsC ?_ hbg)),(by repeat (with_reducible first | exact FrM.refl _ _ | apply FrM.set | apply FrM.drewN)),?_⟩
    · rw [show iwithA true true A i2 = A from rfl,show iwithO true true A i2 = i2 from rfl];exact hS.cells _ (by repeat (with_reducible first | exact keep_refl _ _ | apply keep_put | apply keep_drewN | apply keep_drew)) (oP hS.box)
    · exact Ints.refl.keep hS.box (by decide) (by repeat (with_reducible first | exact keep_refl _ _ | apply keep_put | apply keep_drewN | apply keep_drew))
theorem ipushAll_skip (k : Nat) : ∀ (l : List Int) (s : List Int × List Int × List S115 × Int),¬ s.2.2.2 = 0 → ipushAll k l s = some s
  | [],s,_ => rfl
  | v :: l,s,h => by rw [ipushAll,ipushStep,if_neg h];exact ipushAll_skip k l s h
def EG (w W : World) (base g gf : Nat) (AD AA AL : Option Addr) (b1 cD cA cB cL : Nat) (D A : List Int) (i2 i3 i4 i5 : Int) (b6 b7 : Bool) (B : List Int) (L : List S115) (b10 b11 : Bool) (e0 e1 e2 e3 : Int) (e4 : Bool) : Prop :=
  IS W base g AD AA AL b1 cD cA cB cL D A i2 i3 i4 i5 b6 b7 B L b10 b11 ∧ W.heap[gf]? = some (.cells #[.int .i64 e0,.int .i64 e1,.int .i64 e2,.int .i64 e3,.bool e4] 50 (0,0)) ∧ Below base w W ∧ FrM w W g ∧ gf ≠ g ∧ w.heap.size ≤ gf
section
variable {w W : World} {base g : Nat} {AD AA AL : Option Addr} {b1 cD cA cB cL : Nat} {D A : List Int} {i2 i3 i4 i5 : Int} {b6 b7 : Bool} {B : List Int} {L : List S115} {b10 b11 : Bool} {gf : Nat} {e0 e1 e2 e3 : Int} {e4 : Bool}
theorem EG.st (h : EG w W base g gf AD AA AL b1 cD cA cB cL D A i2 i3 i4 i5 b6 b7 B L b10 b11 e0 e1 e2 e3 e4) : IS W base g AD AA AL b1 cD cA cB cL D A i2 i3 i4 i5 b6 b7 B L b10 b11 := h.1
theorem EG.bf (h : EG w W base g gf AD AA AL b1 cD cA cB cL D A i2 i3 i4 i5 b6 b7 B L b10 b11 e0 e1 e2 e3 e4) : W.heap[gf]? = some (.cells #[.int .i64 e0,.int .i64 e1,.int .i64 e2,.int .i64 e3,.bool e4] 50 (0,0)) := h.2.1
theorem EG.below {W' : World} (h : EG w W base g gf AD AA AL b1 cD cA cB cL D A i2 i3 i4 i5 b6 b7 B L b10 b11 e0 e1 e2 e3 e4) (hb : Below W.heap.size W W') : EG w W' base g gf AD AA AL b1 cD cA cB cL D A i2 i3 i4 i5 b6 b7 B L b10 b11 e0 e1 e2 e3 e4 :=
  ⟨h.1.below hb,blk_below h.bf hb,h.2.2.1.trans (below_low hb h.1.2.2.1),h.2.2.2.1.trans ⟨hb.size,fun _ _ _ _ _ _ e => blk_below e hb⟩,h.2.2.2.2⟩
theorem EG.step {W' : World} {AL' : Option Addr} {cL' : Nat} {A' B' : List Int} {L' : List S115} {j2 j3 j4 j5 : Int} {c6 c7 c10 c11 : Bool} (h : EG w W base g gf AD AA AL b1 cD cA cB cL D A i2 i3 i4 i5 b6 b7 B L b10 b11 e0 e1 e2 e3 e4) (hS : IS W' base g AD AA AL' b1 cD cA cB cL' D A' j2 j3 j4 j5 c6 c7 B' L' c10 c11) (hb : Below base W W') (hf : FrM W W' g) : EG w W' base g gf AD AA AL' b1 cD cA cB cL' D A' j2 j3 j4 j5 c6 c7 B' L' c10 c11 e0 e1 e2 e3 e4 :=
  ⟨hS,hf.2 gf _ _ h.2.2.2.2.1 (by decide) (by decide) h.bf,h.2.2.1.trans hb,h.2.2.2.1.trans hf,h.2.2.2.2⟩
theorem EG.go {j2 j3 j4 j5 : Int} {c6 c7 c10 c11 : Bool} (h : EG w W base g gf AD AA AL b1 cD cA cB cL D A i2 i3 i4 i5 b6 b7 B L b10 b11 e0 e1 e2 e3 e4) (W' : World) (hk : KeepBut W W' g none) (hb : Below base W W') (hf : FrM W W' g) (hW : W'.heap[g]? = some (.cells #[.slice AD D.length cD,.slice AA A.length cA,.int .i64 j2,.int .i64 j3,.int .i64 j4,.int .i64 j5,.bool c6,.bool c7,.slice (some ⟨b1,0,none⟩) B.length cB,.slice AL L.length cL,.bool c10,.bool c11] 36 (0,0))) : EG w W' base g gf AD AA AL b1 cD cA cB cL D A j2 j3 j4 j5 c6 c7 B L c10 c11 e0 e1 e2 e3 e4 :=
  h.step (h.1.cells W' hk hW) hb hf
theorem EG.same (h : EG w W base g gf AD AA AL b1 cD cA cB cL D A i2 i3 i4 i5 b6 b7 B L b10 b11 e0 e1 e2 e3 e4) (W' : World) (e : W'.heap = W.heap) (hb : Below base W W') : EG w W' base g gf AD AA AL b1 cD cA cB cL D A i2 i3 i4 i5 b6 b7 B L b10 b11 e0 e1 e2 e3 e4 :=
  h.go W' ⟨by rw [e];exact Nat.le_refl _,fun i _ _ _ => by rw [e]⟩ hb ⟨by rw [e];exact Nat.le_refl _,fun k c t a b d f => by rw [e];exact f⟩ (by rw [e];exact h.st.box)
end
def LJ (k : Nat) (fr : List Int) (sF : List Int × List Int × List S115 × Int) (w W : World) (kq : Nat) (i : Int) (base g gf : Nat) (AD : Option Addr) (pA b1 cD cA cB : Nat) (D : List Int) (i2 i3 i4 i5 : Int) (b6 b7 b10 b11 : Bool) (e0 e1 e2 e3 : Int) (e4 : Bool) (bF cF bsF : Nat) : Prop :=
  (0 ≤ i ∧ i.toNat + kq = fr.length) ∧ ∃ (AL : Option Addr) (cL : Nat) (A B : List Int) (L : List S115),ipushAll k (fr.drop i.toNat) (A,B,L,0) = some sF ∧ EG w W base g gf AD (some ⟨pA,0,none⟩) AL b1 cD cA cB cL D A i2 i3 i4 i5 b6 b7 B L b10 b11 e0 e1 e2 e3 e4 ∧ Kd.R (Kd.int .i64) 3 W bsF (fun _ => True) (.slice (some ⟨bF,0,none⟩) fr.length cF) fr
set_option maxHeartbeats 8000000 in
set_option maxRecDepth 100000 in
theorem IS.enterT (k : Nat) {W : World} {base g : Nat} {AD AA AL : Option Addr} {b1 cD cA cB cL : Nat} {D A : List Int} {i2 i3 i4 i5 : Int} {b6 b7 : Bool} {B : List Int} {L : List S115} {b10 b11 : Bool} (hS : IS W base g AD AA AL b1 cD cA cB cL D A i2 i3 i4 i5 b6 b7 B L b10 b11) (e0 e1 e2 e3 : Int) (e4 : Bool) (fr : List Int) (t : Int) (r1 r2 : List Int) (r3 r4 r5 r6 : Int) (r7 r8 : Bool) (r9 : List Int) (r10 : List S115) (r11 r12 : Bool)
    (hFr : impl_frameOf.f D A i2 i3 i4 i5 b6 b7 B L b10 b11 e0 e1 e2 e3 e4 = some fr) (hSt : Regs_statusAt.f i4 i5 b6 b7 = some t) (hEn : ienterO k D A i2 i3 i4 i5 b6 b7 B L fr e0 t b11 = some (r1,r2,r3,r4,r5,r6,r7,r8,r9,r10,r11,r12)) :
    Calls Try.prog 48 #[.pointer (some ⟨g,0,none⟩),.agg #[.int .i64 e0,.int .i64 e1,.int .i64 e2,.int .i64 e3,.bool e4]] W fun e w' => (∃ u,e = .returned u) ∧ (∃ AL' cL',IS w' base g AD AA AL' b1 cD cA cB cL' r1 r2 r3 r4 r5 r6 r7 r8 r9 r10 r11 r12) ∧ Below base W w' ∧ FrM W w' g := by
  have hu36 := Try.underlying36
  have hu50 := Try.underlying50
  have hu31 := Try.underlying31
  have hu34 := Try.underlying34
  have hbg := hS.2.1
  have hbw := hS.2.2.1
  unfold ienterO at hEn
  split at hEn
  case isFalse => exact absurd hEn (by simp)
  next hp =>
    obtain ⟨hA4,hB0,hn0,hn5⟩ := hp
    obtain ⟨pA,rfl⟩ := hS.formA (by omega)
    obtain ⟨⟨sA,sB,sL,sf⟩,hP,hEn⟩ := bE hEn
    dsimp only at hEn
    go_enter Try.func48,Try.ntmps48
    go_wp2_with (first | ((with_reducible refine gD 3 rfl ?_);go_loud (refine bY #[.int .i64 e0,.int .i64 e1,.int .i64 e2,.int .i64 e3,.bool e4] 50 ?_;intro gf hg_ w1 hbf hb1;have hE1 : EG W w1 base g gf AD (some ⟨pA,0,none⟩) AL b1 cD cA cB cL D A i2 i3 i4 i5 b6 b7 B L b10 b11 e0 e1 e2 e3 e4 := ⟨hS.below hb1,hbf,below_low hb1 hbw,⟨hb1.size,fun _ _ _ _ _ _ e_ => blk_below e_ hb1⟩,Nat.ne_of_gt (by rw [hg_];exact blk_lt hS.box),Nat.le_of_eq hg_.symm⟩;clear hg_ hbf hb1)))
    have hc : ∀ W' : World,W'.heap[g]? = some (.cells #[.slice AD D.length cD,.slice (some ⟨pA,0,none⟩) A.length cA,.int .i64 i2,.int .i64 i3,.int .i64 i4,.int .i64 i5,.bool b6,.bool b7,.slice (some ⟨b1,0,none⟩) B.length cB,.slice AL L.length cL,.bool b10,.bool b11] 36 (0,0)) → W'.heap[gf]? = some (.cells #[.int .i64 e0,.int .i64 e1,.int .i64 e2,.int .i64 e3,.bool e4] 50 (0,0)) → W'.cell? ⟨g,0,none⟩ = some (.slice AD D.length cD) ∧ W'.cell? ⟨g,1,none⟩ = some (.slice (some ⟨pA,0,none⟩) A.length cA) ∧ W'.cell? ⟨g,2,none⟩ = some (.int .i64 i2) ∧ W'.cell? ⟨g,3,none⟩ = some (.int .i64 i3) ∧ W'.cell? ⟨g,4,none⟩ = some (.int .i64 i4) ∧ W'.cell? ⟨g,5,none⟩ = some (.int .i64 i5) ∧ W'.cell? ⟨g,6,none⟩ = some (.bool b6) ∧ W'.cell? ⟨g,7,none⟩ = some (.bool b7) ∧ W'.cell? ⟨g,8,none⟩ = some (.slice (some ⟨b1,0,none⟩) B.length cB) ∧ W'.cell? ⟨g,9,none⟩ = some (.slice AL L.length cL) ∧ W'.cell? ⟨g,10,none⟩ = some (.bool b10) ∧ W'.cell? ⟨g,11,none⟩ = some (.bool b11) ∧ W'.cell? ⟨gf,0,none⟩ = some (.int .i64 e0) ∧ W'.cell? ⟨gf,1,none⟩ = some (.int .i64 e1) ∧ W'.cell? ⟨gf,2,none⟩ = some (.int .i64 e2) ∧ W'.cell? ⟨gf,3,none⟩ = some (.int .i64 e3) ∧ W'.cell? ⟨gf,4,none⟩ = some (.bool e4) := fun W' h_ j_ => ⟨(blk_cell h_ 0).trans rfl,(blk_cell h_ 1).trans rfl,(blk_cell h_ 2).trans rfl,(blk_cell h_ 3).trans rfl,(blk_cell h_ 4).trans rfl,(blk_cell h_ 5).trans rfl,(blk_cell h_ 6).trans rfl,(blk_cell h_ 7).trans rfl,(blk_cell h_ 8).trans rfl,(blk_cell h_ 9).trans rfl,(blk_cell h_ 10).trans rfl,(blk_cell h_ 11).trans rfl,(blk_cell j_ 0).trans rfl,(blk_cell j_ 1).trans rfl,(blk_cell j_ 2).trans rfl,(blk_cell j_ 3).trans rfl,(blk_cell j_ 4).trans rfl⟩
    have hE2 := hE1.same w1.drew rfl (by repeat (with_reducible first | exact Below.refl _ _ | apply pw_below_drewN | apply below_drew1 | refine bsC ?_ hbg))
    clear hE1
    refine start_ (n := 6) (S := fun w' => w'.cell? ⟨g,0,none⟩ = some (.slice AD D.length cD) ∧ w'.cell? ⟨g,1,none⟩ = some (.slice (some ⟨pA,0,none⟩) A.length cA) ∧ w'.cell? ⟨g,2,none⟩ = some (.int .i64 i2) ∧ w'.cell? ⟨g,3,none⟩ = some (.int .i64 i3) ∧ w'.cell? ⟨g,4,none⟩ = some (.int .i64 i4) ∧ w'.cell? ⟨g,5,none⟩ = some (.int .i64 i5) ∧ w'.cell? ⟨g,6,none⟩ = some (.bool b6) ∧ w'.cell? ⟨g,7,none⟩ = some (.bool b7) ∧ w'.cell? ⟨g,8,none⟩ = some (.slice (some ⟨b1,0,none⟩) B.length cB) ∧ w'.cell? ⟨g,9,none⟩ = some (.slice AL L.length cL) ∧ w'.cell? ⟨g,10,none⟩ = some (.bool b10) ∧ w'.cell? ⟨g,11,none⟩ = some (.bool b11) ∧ w'.cell? ⟨gf,0,none⟩ = some (.int .i64 e0) ∧ w'.cell? ⟨gf,1,none⟩ = some (.int .i64 e1) ∧ w'.cell? ⟨gf,2,none⟩ = some (.int .i64 e2) ∧ w'.cell? ⟨gf,3,none⟩ = some (.int .i64 e3) ∧ w'.cell? ⟨gf,4,none⟩ = some (.bool e4)) (ds := []) (bA 6 0) (by kernel_rfl) rfl rfl (hc _ hE2.st.box hE2.bf) (fun hHeld => ?_)
    generalize w1.drew = w2 at hE2 hHeld ⊢
    have hlt := hE2.st.lts
    refine pB 0 11 1 ?_
    refine pB 1 12 3 ?_
    refine tB 2 13 7 ?_
    refine tB 3 14 15 ?_
    refine oneB 4 15 31 fun K hK => ?_
    refine goesS Try.func77 #[.agg #[.slice AD D.length cD,.slice (some ⟨pA,0,none⟩) A.length cA,.int .i64 i2,.int .i64 i3,.int .i64 i4,.int .i64 i5,.bool b6,.bool b7,.slice (some ⟨b1,0,none⟩) B.length cB,.slice AL L.length cL,.bool b10,.bool b11],.agg #[.int .i64 e0,.int .i64 e1,.int .i64 e2,.int .i64 e3,.bool e4]] ?_
    have hrd := hE2.st.reads
    refine (impl_frameOf.calls _ _ D _ _ A i2 i3 i4 i5 b6 b7 _ _ B _ _ L b10 b11 e0 e1 e2 e3 e4 fr _ hrd.1.1 hrd.1.2 hrd.2.1.1 hrd.2.1.2 hrd.2.2.1.1 hrd.2.2.1.2 hrd.2.2.2.1 hrd.2.2.2.2 hFr).mono ?_
    rintro e w8 ⟨vF,rfl,hF8,hb8⟩
    refine ⟨_,rfl,?_⟩
    have hE8 := hE2.below hb8
    clear hE2 hrd hb8
    obtain ⟨bF,cF,rfl,-⟩ := Kd.R_form hF8 hn0
    refine hK.out _ _ (hc _ hE8.st.box hE8.bf) (fun hHeld => ?_)
    clear hK K hHeld
    refine norm_ (a' := ?_) ?_ ?_
    rotate_left
    · show Act.put _ (some 15) _ = _
      go_frame;(try simp only [i64_w,i32_w]);rfl
    refine pB 5 4 63 ?_
    refine done_ (by kernel_rfl) ?_
    refine zz12 hE8.st.box ?_
    intros
    go_wp2
    refine genWorld (fun W' => EG W W' base g gf AD (some ⟨pA,0,none⟩) AL b1 cD cA cB cL D A i2 i3 i4 i5 b6 b7 B L false b11 e0 e1 e2 e3 e4 ∧ Kd.R (Kd.int .i64) 3 W' w2.heap.size (fun _ => True) (.slice (some ⟨bF,0,none⟩) fr.length cF) fr) ⟨hE8.go _ (by repeat (with_reducible first | exact keep_refl _ _ | apply keep_put | apply keep_drewN | apply keep_drew)) (by repeat (with_reducible first | exact Below.refl _ _ | apply pw_below_drewN | apply below_drew1 | refine bsC ?_ hbg)) (by repeat (with_reducible first | exact FrM.refl _ _ | apply FrM.set | apply FrM.drewN)) (oP hE8.st.box),oF hF8 hE8.st.box⟩ ?_
    rintro w9 ⟨hE9,hF9⟩
    replace hE9 := hE9.same w9.drew rfl (by repeat (with_reducible first | exact Below.refl _ _ | apply pw_below_drewN | apply below_drew1 | refine bsC ?_ hbg))
    replace hF9 := Kd.R_drew hF9
    clear hE8 hF8
    refine start_ (n := 10) (S := fun _ => True) (ds := []) (bA 10 0) (by kernel_rfl) rfl rfl trivial (fun hHeld => ?_)
    generalize w9.drew = w10 at hE9 hF9 hHeld ⊢
    refine pB 0 19 1 ?_
    refine pB 1 20 3 ?_
    refine pB 2 21 7 ?_
    refine pB 3 22 15 ?_
    refine pB 4 23 31 ?_
    refine pB 5 24 63 ?_
    refine oneB 6 25 127 fun K hK => ?_
    refine goesS Try.func79 #[.pointer (some ⟨g,0,none⟩)] ?_
    refine (Regs_statusAt.calls i4 i5 b6 b7 t _ hSt g _ _ hE9.st.box rfl rfl rfl rfl).mono ?_
    rintro e w' ⟨rfl,⟨nd,rfl⟩⟩
    refine ⟨_,rfl,?_⟩
    replace hE9 := hE9.same (w10.drewN nd) rfl (by repeat (with_reducible first | exact Below.refl _ _ | apply pw_below_drewN | apply below_drew1 | refine bsC ?_ hbg))
    replace hF9 := Kd.R_drewN hF9 nd
    generalize w10.drewN nd = w11 at hE9 hF9 ⊢
    refine hK.out _ _ trivial (fun hHeld => ?_)
    clear hK K
    refine norm_ (a' := ?_) ?_ ?_
    rotate_left
    · show Act.put _ (some 25) _ = _
      go_frame;(try simp only [i64_w,i32_w]);rfl
    refine pB 7 26 255 ?_
    refine pB 8 27 511 ?_
    refine one_ (i := 9) (N := some 28) (bA 10 1023) (hi := by rfl) (hN := by rfl) (hc := by kernel_rfl) (hd := by decide) (h := ?_)
    intro K hK
    refine goesS Try.func78 #[.pointer (some ⟨g,0,none⟩),.int .i64 (ienSt t)] ?_
    refine (IS.setStatus (ienSt t) (ienSv (ienSt t)) rfl hE9.st hA4).mono ?_
    rintro e w12 ⟨⟨u12,rfl⟩,hS12,hb12,hf12,hi12⟩
    refine ⟨_,rfl,?_⟩
    have hE12 := hE9.step hS12 hb12 hf12
    have hF12 := hi12.R hF9 (fun k_ _ hk_ => ⟨Nat.ne_of_gt (Nat.lt_of_lt_of_le hlt.1 hk_),fun a_ e_ => by injection e_ with e_;subst e_;exact Nat.ne_of_gt (Nat.lt_of_lt_of_le hlt.2 hk_)⟩)
    clear hE9 hF9 hS12 hb12 hf12 hi12
    refine hK.out _ _ trivial (fun hHeld => ?_)
    clear hK K hHeld
    refine norm_ (a' := ?_) ?_ ?_
    rotate_left
    · show Act.put _ (some 28) _ = _
      go_frame;(try simp only [i64_w,i32_w]);rfl
    refine done_ (by kernel_rfl) ?_
    go_wp2
    go_loopg [31] fr.length (fun kq v31 w' => ∃ (i : Int),v31 = .int .i64 i ∧ Aside0 (LJ k fr (sA,sB,sL,sf) W w' kq i base g gf AD pA b1 cD cA cB D (iwithO (ienSv (ienSt t)) b6 A i2) i3 (Go.bits .and .i64 (ienSt t) 31) (Go.bits .and .i64 ((ienSt t) / 32) 7) (ienSv (ienSt t)) (Go.bits .and .i64 (ienSt t) 512 != 0) false b11 e0 e1 e2 e3 e4 bF cF w2.heap.size))
    case atStart => exact ⟨0,rfl,⟨⟨⟨Int.le_refl 0,by simp⟩,_,_,_,_,_,by rw [show (0 : Int).toNat = 0 from rfl,List.drop_zero];exact hP,hE12,hF12⟩⟩⟩
    case round =>
      clear hE12 hF12
      obtain ⟨i,rfl,hLI⟩ := hrel
      obtain ⟨⟨hi0,hik⟩,AL',cL',A',B',L',hPi,hE,hF⟩ := hLI.out
      clear hLI
      have hm1 : ∀ c a (M : List Int),ichM 1 c 0 a M = M := fun c a M => by unfold ichM;rw [if_neg (by simp)]
      by_cases hl : i < (fr.length : Int)
      · have hw1 : IntKind.i64.wrap (i + 1) = i + 1 := by rw [i64_w];unfold wrap64;omega
        have k0 := decide_eq_true hl
        obtain ⟨hx,hfz⟩ : wr.cell? ⟨bF,i.toNat,none⟩ = some (.int .i64 (rd fr i)) ∧ _ := Kd.R_celln 0 hF i hi0 hl
        have p0 : (0 ≤ i) = True := eq_true hi0
        have q0 : (i < (fr.length : Int)) = True := eq_true hl
        have hdr : fr.drop i.toNat = rd fr i :: fr.drop (i + 1).toNat := by
          have hj : i.toNat < fr.length := by omega
          rw [List.drop_eq_getElem_cons hj,show (i + 1).toNat = i.toNat + 1 by omega]
          congr 1
          simp [rd,hj]
        rw [hdr,ipushAll] at hPi
        obtain ⟨s1,hs1,hPi⟩ := bE hPi
        unfold ipushStep at hs1
        rw [if_pos rfl] at hs1
        obtain ⟨c,hC,hs1⟩ := bE hs1
        dsimp only at hC hs1
        split at hs1
        case isFalse => exact absurd hs1 (by simp)
        next hq =>
          obtain rfl := Option.some.inj hs1
          by_cases c0 : c = 0
          · have hr2 := hq.2.2 c0
            subst c0
            simp only [if_true] at hPi
            go_wp2_with (first | (go_at_call 44;go_loud (refine (IS.push2 k hE.st hq.1 hC hq.2.1.1 hq.2.1.2 (fun _ => hr2)).mono ?_;rintro e w22 ⟨⟨u2,rfl⟩,⟨AL2,cL2,hS2⟩,hb2,hf2,hi2⟩;simp only [if_true] at hS2;have hE2 := hE.step hS2 hb2 hf2;have hF2 := hi2.R hF (fun k_ _ hk_ => ⟨Nat.ne_of_gt (Nat.lt_of_lt_of_le hlt.1 hk_),fun a_ e_ => by injection e_ with e_;subst e_;exact Nat.ne_of_gt (Nat.lt_of_lt_of_le hlt.2 hk_)⟩);refine zz12 hE2.st.box ?_;intros)))
            go_roundg (gk - 1)
            case measure => omega
            case rel => exact ⟨_,rfl,⟨⟨⟨by omega,by omega⟩,_,_,_,_,_,hPi,hE2,hF2⟩⟩⟩
          · obtain ⟨d0,d1⟩ := eF c0
            rw [ipushAll_skip k _ _ c0] at hPi
            simp only [if_neg c0,Option.some.injEq,Prod.mk.injEq] at hPi
            obtain ⟨rfl,rfl,rfl,rfl⟩ := hPi
            rw [if_neg c0] at hEn
            simp only [Option.some.injEq,Prod.mk.injEq] at hEn
            obtain ⟨rfl,rfl,rfl,rfl,rfl,rfl,rfl,rfl,rfl,rfl,rfl,rfl⟩ := hEn
            go_wp2_with (first | (go_at_call 44;go_loud (refine (IS.push2 k hE.st hq.1 hC hq.2.1.1 hq.2.1.2 (fun e_ => absurd e_ c0)).mono ?_;rintro e w22 ⟨⟨u2,rfl⟩,⟨AL2,cL2,hS2⟩,hb2,hf2,hi2⟩;simp only [if_neg c0] at hS2;have hE2 := hE.step hS2 hb2 hf2;have hF2 := hi2.R hF (fun k_ _ hk_ => ⟨Nat.ne_of_gt (Nat.lt_of_lt_of_le hlt.1 hk_),fun a_ e_ => by injection e_ with e_;subst e_;exact Nat.ne_of_gt (Nat.lt_of_lt_of_le hlt.2 hk_)⟩);refine zz12 hE2.st.box ?_;intros)))
            refine bodyPost_ret (results_list (rs := []) (vs := []) rfl (by simp) .nil) rfl ?_
            exact ⟨⟨_,rfl⟩,⟨AL2,cL2,hE2.st.cells _ (by repeat (with_reducible first | exact keep_refl _ _ | apply keep_put | apply keep_drewN | apply keep_drew)) (oP hE2.st.box)⟩,hE2.2.2.1.trans (by repeat (with_reducible first | exact Below.refl _ _ | apply pw_below_drewN | apply below_drew1 | refine bsC ?_ hbg)),hE2.2.2.2.1.trans (by repeat (with_reducible first | exact FrM.refl _ _ | apply FrM.set | apply FrM.drewN))⟩
      · have k0 := decide_eq_false hl
        have hnil : fr.drop i.toNat = [] := List.drop_eq_nil_of_le (by omega)
        rw [hnil,ipushAll] at hPi
        simp only [Option.some.injEq,Prod.mk.injEq] at hPi
        obtain ⟨rfl,rfl,rfl,rfl⟩ := hPi
        rw [if_pos rfl] at hEn
        obtain ⟨c,hC,hEn⟩ := bE hEn
        split at hEn
        case isFalse => exact absurd hEn (by simp)
        next hq =>
          by_cases c0 : c = 0
          · have hr2 := hq.2 c0
            subst c0
            rw [if_pos rfl,if_pos rfl] at hEn
            simp only [Option.some.injEq,Prod.mk.injEq] at hEn
            obtain ⟨rfl,rfl,rfl,rfl,rfl,rfl,rfl,rfl,rfl,rfl,rfl,rfl⟩ := hEn
            go_wp2
            replace hE := hE.same wr.drew rfl (by repeat (with_reducible first | exact Below.refl _ _ | apply pw_below_drewN | apply below_drew1 | refine bsC ?_ hbg))
            have hcf : ∀ W' : World,W'.heap[gf]? = some (.cells #[.int .i64 e0,.int .i64 e1,.int .i64 e2,.int .i64 e3,.bool e4] 50 (0,0)) → W'.cell? ⟨gf,0,none⟩ = some (.int .i64 e0) := fun W' j_ => (blk_cell j_ 0).trans rfl
            refine start_ (n := 12) (S := fun w' => w'.cell? ⟨gf,0,none⟩ = some (.int .i64 e0)) (ds := []) (bA 12 0) (by kernel_rfl) rfl rfl (hcf _ hE.bf) (fun hHeld => ?_)
            generalize wr.drew = w14 at hE hHeld ⊢
            refine pB 0 48 1 ?_
            refine pB 1 49 3 ?_
            refine pB 2 50 7 ?_
            refine pB 3 51 15 ?_
            refine tB 4 52 31 ?_
            refine pB 5 53 63 ?_
            refine oneB 6 54 127 fun K hK => ?_
            refine goesS Try.func64 #[.pointer (some ⟨g,8,none⟩),.int .i64 1,.int .i64 2,.int .i64 (ivecAt e0),.int .i64 0] ?_
            refine (IS.touch2 k hE.st hC hq.1.1 hq.1.2 (.inl rfl) (fun _ => hr2)).mono ?_
            rintro e w15 ⟨rfl,⟨AL2,cL2,hS2⟩,hb2,hf2,-⟩
            refine ⟨_,rfl,?_⟩
            rw [hm1] at hS2
            have hE2 := hE.step hS2 hb2 hf2
            clear hS2 hb2 hf2
            refine hK.out _ _ (hcf _ hE2.bf) (fun hHeld => ?_)
            clear hK K hHeld
            refine norm_ (a' := ?_) ?_ ?_
            rotate_left
            · show Act.put _ (some 54) _ = _
              go_frame;(try simp only [i64_w,i32_w]);rfl
            refine pB 7 47 255 ?_
            refine pB 8 55 511 ?_
            refine pB 9 56 1023 ?_
            refine pB 10 9 2047 ?_
            refine pB 11 10 4095 ?_
            refine done_ (by kernel_rfl) ?_
            refine zz12 hE2.st.box ?_
            intros
            have hv : ichR 1 0 (ivecAt e0) B' = ichV (ivecAt e0) B' := by simp [ichR]
            rw [hv]
            go_wp2
            go_end0
            exact ⟨⟨_,rfl⟩,⟨AL2,cL2,hE2.st.cells _ (by repeat (with_reducible first | exact keep_refl _ _ | apply keep_put | apply keep_drewN | apply keep_drew)) (oP hE2.st.box)⟩,hE2.2.2.1.trans (by repeat (with_reducible first | exact Below.refl _ _ | apply pw_below_drewN | apply below_drew1 | refine bsC ?_ hbg)),hE2.2.2.2.1.trans (by repeat (with_reducible first | exact FrM.refl _ _ | apply FrM.set | apply FrM.drewN))⟩
          · obtain ⟨d0,d1⟩ := eF c0
            rw [if_neg c0,if_neg c0] at hEn
            simp only [Option.some.injEq,Prod.mk.injEq] at hEn
            obtain ⟨rfl,rfl,rfl,rfl,rfl,rfl,rfl,rfl,rfl,rfl,rfl,rfl⟩ := hEn
            go_wp2
            replace hE := hE.same wr.drew rfl (by repeat (with_reducible first | exact Below.refl _ _ | apply pw_below_drewN | apply below_drew1 | refine bsC ?_ hbg))
            have hcf : ∀ W' : World,W'.heap[gf]? = some (.cells #[.int .i64 e0,.int .i64 e1,.int .i64 e2,.int .i64 e3,.bool e4] 50 (0,0)) → W'.cell? ⟨gf,0,none⟩ = some (.int .i64 e0) := fun W' j_ => (blk_cell j_ 0).trans rfl
            refine start_ (n := 12) (S := fun w' => w'.cell? ⟨gf,0,none⟩ = some (.int .i64 e0)) (ds := []) (bA 12 0) (by kernel_rfl) rfl rfl (hcf _ hE.bf) (fun hHeld => ?_)
            generalize wr.drew = w14 at hE hHeld ⊢
            refine pB 0 48 1 ?_
            refine pB 1 49 3 ?_
            refine pB 2 50 7 ?_
            refine pB 3 51 15 ?_
            refine tB 4 52 31 ?_
            refine pB 5 53 63 ?_
            refine oneB 6 54 127 fun K hK => ?_
            refine goesS Try.func64 #[.pointer (some ⟨g,8,none⟩),.int .i64 1,.int .i64 2,.int .i64 (ivecAt e0),.int .i64 0] ?_
            refine (IS.touch2 k hE.st hC hq.1.1 hq.1.2 (.inl rfl) (fun e_ => absurd e_ c0)).mono ?_
            rintro e w15 ⟨rfl,⟨AL2,cL2,hS2⟩,hb2,hf2,-⟩
            refine ⟨_,rfl,?_⟩
            rw [hm1] at hS2
            have hE2 := hE.step hS2 hb2 hf2
            clear hS2 hb2 hf2
            refine hK.out _ _ (hcf _ hE2.bf) (fun hHeld => ?_)
            clear hK K hHeld
            refine norm_ (a' := ?_) ?_ ?_
            rotate_left
            · show Act.put _ (some 54) _ = _
              go_frame;(try simp only [i64_w,i32_w]);rfl
            refine pB 7 47 255 ?_
            refine pB 8 55 511 ?_
            refine pB 9 56 1023 ?_
            refine pB 10 9 2047 ?_
            refine pB 11 10 4095 ?_
            refine done_ (by kernel_rfl) ?_
            refine zz12 hE2.st.box ?_
            intros
            go_wp2
            refine bodyPost_ret (results_list (rs := []) (vs := []) rfl (by simp) .nil) rfl ?_
            exact ⟨⟨_,rfl⟩,⟨AL2,cL2,hE2.st.cells _ (by repeat (with_reducible first | exact keep_refl _ _ | apply keep_put | apply keep_drewN | apply keep_drew)) (oP hE2.st.box)⟩,hE2.2.2.1.trans (by repeat (with_reducible first | exact Below.refl _ _ | apply pw_below_drewN | apply below_drew1 | refine bsC ?_ hbg)),hE2.2.2.2.1.trans (by repeat (with_reducible first | exact FrM.refl _ _ | apply FrM.set | apply FrM.drewN))⟩
def impl_EnterFault.f (k : Nat) (l0 l1 : List Int) (a2 a3 a4 a5 : Int) (a6 a7 : Bool) (l8 : List Int) (l9 : List S115) (a10 a11 : Bool) (e0 e1 e2 e3 : Int) (e4 : Bool) : Option (List Int × List Int × Int × Int × Int × Int × Bool × Bool × List Int × List S115 × Bool × Bool × Bool) :=
  (impl_GoodCpu.f k l0 l1 a2 a3 a4 a5 a6 a7 l8 l9 a10 a11).bind fun t => if t = true then (if a11 = true then some ([],[],0,0,0,0,false,false,[],[],false,false,false) else (impl_GoodFault.f e0 e1 e2 e3 e4).bind fun u => (if u = true then (impl_ownCpu.f l0 l1 a2 a3 a4 a5 a6 a7 l8 l9 a10 a11).bind fun b => (impl_frameOf.f b.1 b.2.1 b.2.2.1 b.2.2.2.1 b.2.2.2.2.1 b.2.2.2.2.2.1 b.2.2.2.2.2.2.1 b.2.2.2.2.2.2.2.1 b.2.2.2.2.2.2.2.2.1 b.2.2.2.2.2.2.2.2.2.1 b.2.2.2.2.2.2.2.2.2.2.1 b.2.2.2.2.2.2.2.2.2.2.2 e0 e1 e2 e3 e4).bind fun fr => (Regs_statusAt.f b.2.2.2.2.1 b.2.2.2.2.2.1 b.2.2.2.2.2.2.1 b.2.2.2.2.2.2.2.1).bind fun st => (ienterO k b.1 b.2.1 b.2.2.1 b.2.2.2.1 b.2.2.2.2.1 b.2.2.2.2.2.1 b.2.2.2.2.2.2.1 b.2.2.2.2.2.2.2.1 b.2.2.2.2.2.2.2.2.1 b.2.2.2.2.2.2.2.2.2.1 fr e0 st b.2.2.2.2.2.2.2.2.2.2.2).bind fun q => some (q.1,q.2.1,q.2.2.1,q.2.2.2.1,q.2.2.2.2.1,q.2.2.2.2.2.1,q.2.2.2.2.2.2.1,q.2.2.2.2.2.2.2.1,q.2.2.2.2.2.2.2.2.1,q.2.2.2.2.2.2.2.2.2.1,q.2.2.2.2.2.2.2.2.2.2.1,q.2.2.2.2.2.2.2.2.2.2.2,true) else some ([],[],0,0,0,0,false,false,[],[],false,false,false))) else some ([],[],0,0,0,0,false,false,[],[],false,false,false)
theorem ipushStep.mono (k : Nat) (v : Int) (s : List Int × List Int × List S115 × Int) : LeO (ipushStep k v s) (ipushStep (k + 1) v s) := by
  unfold ipushStep
  with_reducible repeat' first | exact impl_codeOf.mono _ _ _ _ | exact LeO.refl _ | exact LeO.none _ | refine LeO.ite ?_ ?_ | refine LeO.bind ?_ (fun _ => ?_)
theorem ipushAll.mono (k : Nat) : ∀ (l : List Int) (s : List Int × List Int × List S115 × Int),LeO (ipushAll k l s) (ipushAll (k + 1) l s)
  | [],s => LeO.refl _
  | v :: l,s => by rw [ipushAll,ipushAll];exact LeO.bind (ipushStep.mono k v s) (fun s => ipushAll.mono k l s)
theorem impl_EnterFault.mono : ∀ a0 a1 a2 a3 a4 a5 a6 a7 a8 a9 a10 a11 c0 c1 c2 c3 c4 k,LeO (impl_EnterFault.f k a0 a1 a2 a3 a4 a5 a6 a7 a8 a9 a10 a11 c0 c1 c2 c3 c4) (impl_EnterFault.f (k + 1) a0 a1 a2 a3 a4 a5 a6 a7 a8 a9 a10 a11 c0 c1 c2 c3 c4) := by
  intro a0 a1 a2 a3 a4 a5 a6 a7 a8 a9 a10 a11 c0 c1 c2 c3 c4 k
  unfold impl_EnterFault.f ienterO
  with_reducible repeat' first | exact impl_GoodCpu.mono _ _ _ _ _ _ _ _ _ _ _ _ _ | exact impl_codeOf.mono _ _ _ _ | exact ipushAll.mono _ _ _ | exact LeO.refl _ | exact LeO.none _ | refine LeO.ite ?_ ?_ | refine LeO.bind ?_ (fun _ => ?_)
theorem IS.own {W W' : World} {base g : Nat} {AD AA AL : Option Addr} {b1 cD cA cB cL : Nat} {D A : List Int} {i2 i3 i4 i5 : Int} {b6 b7 : Bool} {B : List Int} {L : List S115} {b10 b11 : Bool}
    (ho0 : Kd.R (Kd.int .i64) 3 W base (fun k_ => some k_ ≠ (.slice AA A.length cA : Value).ownBlock ∧ some k_ ≠ (.slice (some ⟨b1,0,none⟩) B.length cB : Value).ownBlock) (.slice AD D.length cD) D)
    (ho1 : Kd.R (Kd.int .i64) 3 W base (fun k_ => some k_ ≠ (.slice AD D.length cD : Value).ownBlock ∧ some k_ ≠ (.slice (some ⟨b1,0,none⟩) B.length cB : Value).ownBlock) (.slice AA A.length cA) A)
    (ho8 : Kd.R (Kd.int .i64) 3 W base (fun k_ => some k_ ≠ (.slice AD D.length cD : Value).ownBlock ∧ some k_ ≠ (.slice AA A.length cA : Value).ownBlock) (.slice (some ⟨b1,0,none⟩) B.length cB) B)
    (ho9 : Kd.R k115 115 W base (fun _ => True) (.slice AL L.length cL) L) (hbg : base ≤ g) (hbw : base ≤ W.heap.size) (hz : W.heap[g]? = some (.cells #[.slice none 0 0,.slice none 0 0,.int .i64 0,.int .i64 0,.int .i64 0,.int .i64 0,.bool false,.bool false,.slice none 0 0,.slice none 0 0,.bool false,.bool false] 36 (0,0))) (hk : KeepBut W W' g none) (hW : W'.heap[g]? = some (.cells #[.slice AD D.length cD,.slice AA A.length cA,.int .i64 i2,.int .i64 i3,.int .i64 i4,.int .i64 i5,.bool b6,.bool b7,.slice (some ⟨b1,0,none⟩) B.length cB,.slice AL L.length cL,.bool b10,.bool b11] 36 (0,0))) :
    IS W' base g AD AA AL b1 cD cA cB cL D A i2 i3 i4 i5 b6 b7 B L b10 b11 :=
  ⟨hW,hbg,Nat.le_trans hbw hk.1,Kd.R_mono (oF ho0 hz (by decide) hk) (fun k hk => ⟨hk.1,fun e => hk.2 (by rw [e];rfl)⟩),Kd.R_mono (oF ho1 hz (by decide) hk) (fun k hk => ⟨hk.1,fun e => hk.2 (by rw [e];rfl)⟩),oF ho8 hz (by decide) hk,oF ho9 hz (by decide) hk⟩
set_option maxHeartbeats 8000000 in
set_option maxRecDepth 100000 in
theorem impl_EnterFault.calls (k : Nat) (A0_0 : Option Addr) (c0_0 : Nat) (l0_0 : List Int) (A0_1 : Option Addr) (c0_1 : Nat) (l0_1 : List Int) (a0_2 : Int) (a0_3 : Int) (a0_4 : Int) (a0_5 : Int) (a0_6 : Bool) (a0_7 : Bool) (A0_8 : Option Addr) (c0_8 : Nat) (l0_8 : List Int) (A0_9 : Option Addr) (c0_9 : Nat) (l0_9 : List S115) (a0_10 : Bool) (a0_11 : Bool) (a1_0 a1_1 a1_2 a1_3 : Int) (a1_4 : Bool) (r1 r2 : List Int) (r3 r4 r5 r6 : Int) (r7 r8 : Bool) (r9 : List Int) (r10 : List S115) (r11 r12 : Bool) (r13 : Bool) (w : World) (hr0_0 : Kd.C (Kd.int .i64) w A0_0 l0_0.length l0_0) (hc0_0 : l0_0.length ≤ c0_0) (hr0_1 : Kd.C (Kd.int .i64) w A0_1 l0_1.length l0_1) (hc0_1 : l0_1.length ≤ c0_1) (hr0_8 : Kd.C (Kd.int .i64) w A0_8 l0_8.length l0_8) (hc0_8 : l0_8.length ≤ c0_8) (hr0_9 : Kd.C k115 w A0_9 l0_9.length l0_9) (hc0_9 : l0_9.length ≤ c0_9) (h : impl_EnterFault.f k l0_0 l0_1 a0_2 a0_3 a0_4 a0_5 a0_6 a0_7 l0_8 l0_9 a0_10 a0_11 a1_0 a1_1 a1_2 a1_3 a1_4 = some (r1,r2,r3,r4,r5,r6,r7,r8,r9,r10,r11,r12,r13)) :
    Calls Try.prog 18 #[.agg #[.slice A0_0 l0_0.length c0_0,.slice A0_1 l0_1.length c0_1,.int .i64 a0_2,.int .i64 a0_3,.int .i64 a0_4,.int .i64 a0_5,.bool a0_6,.bool a0_7,.slice A0_8 l0_8.length c0_8,.slice A0_9 l0_9.length c0_9,.bool a0_10,.bool a0_11],.agg #[.int .i64 a1_0,.int .i64 a1_1,.int .i64 a1_2,.int .i64 a1_3,.bool a1_4]] w fun e w' => ∃ v0_ v1_ v8_ v9_ : Value,e = .returned (.tuple #[.agg #[v0_,v1_,.int .i64 r3,.int .i64 r4,.int .i64 r5,.int .i64 r6,.bool r7,.bool r8,v8_,v9_,.bool r11,.bool r12],.bool r13]) ∧ Kd.R (Kd.int .i64) 3 w' w.heap.size (fun k_ => some k_ ≠ (v1_ : Value).ownBlock ∧ some k_ ≠ (v8_ : Value).ownBlock) v0_ r1 ∧ Kd.R (Kd.int .i64) 3 w' w.heap.size (fun k_ => some k_ ≠ (v0_ : Value).ownBlock ∧ some k_ ≠ (v8_ : Value).ownBlock) v1_ r2 ∧ Kd.R (Kd.int .i64) 3 w' w.heap.size (fun k_ => some k_ ≠ (v0_ : Value).ownBlock ∧ some k_ ≠ (v1_ : Value).ownBlock) v8_ r9 ∧ Kd.R k115 115 w' w.heap.size (fun _ => True) v9_ r10 ∧ Below w.heap.size w w' := by
  have hu36 := Try.underlying36;have hu50 := Try.underlying50;have HB := aS (Below.refl w.heap.size w);unfold impl_EnterFault.f at h;obtain ⟨t,hG,h⟩ := bE h;cases t
  · simp only [Bool.false_eq_true,if_false,Option.some.injEq,Prod.mk.injEq] at h
    obtain ⟨rfl,rfl,rfl,rfl,rfl,rfl,rfl,rfl,rfl,rfl,rfl,rfl,rfl⟩ := h;go_enter Try.func18,Try.ntmps18;go_wp2_with (first | ((with_reducible refine gC 32 rfl ?_);refine gN Try.func32 #[.agg #[.slice A0_0 l0_0.length c0_0,.slice A0_1 l0_1.length c0_1,.int .i64 a0_2,.int .i64 a0_3,.int .i64 a0_4,.int .i64 a0_5,.bool a0_6,.bool a0_7,.slice A0_8 l0_8.length c0_8,.slice A0_9 l0_9.length c0_9,.bool a0_10,.bool a0_11]] ?_;(with_reducible refine (impl_GoodCpu.calls k _ _ l0_0 _ _ l0_1 a0_2 a0_3 a0_4 a0_5 a0_6 a0_7 _ _ l0_8 _ _ l0_9 a0_10 a0_11 false _ ?s1 hc0_0 ?s2 hc0_1 ?s3 hc0_8 ?s4 hc0_9 hG).mono ?_);(case s1 => exact oC hr0_0);(case s2 => exact oC hr0_1);(case s3 => exact oC hr0_8);(case s4 => exact oC hr0_9);rintro e w5 ⟨rfl,hb5⟩;refine ⟨_,rfl,?_⟩;have BKp5 := aS (xB BKp hb5);have BKe5 := aS (xB BKe hb5);have BKr5 := aS (xB BKr hb5);have HB5 := aS (xL hb5 : Below w.heap.size w w5);clear BKp BKe BKr HB;have BKp := BKp5;have BKe := BKe5;have BKr := BKr5;have HB := HB5;clear BKp5 BKe5 BKr5 HB5;clear hb5;refine zz12 BKp.out ?_;intros;refine zz5 BKe.out ?_;intros;refine zz12 BKr.out ?_;intros) | ((with_reducible refine gD 4 rfl ?_);go_loud (refine bY #[.slice none 0 0,.slice none 0 0,.int .i64 0,.int .i64 0,.int .i64 0,.int .i64 0,.bool false,.bool false,.slice none 0 0,.slice none 0 0,.bool false,.bool false] 36 ?_;intro gr hg_ w4 hbx_ hb_;have GWr := aS (xG hg_ HB : w.heap.size ≤ gr);have NBrp := aS (xM hg_ BKp : gr ≠ gp);have NBpr := aS (Ne.symm NBrp.out);have nbrp := NBrp.out;have nbpr := NBpr.out;have NBre := aS (xM hg_ BKe : gr ≠ ge);have NBer := aS (Ne.symm NBre.out);have nbre := NBre.out;have nber := NBer.out;have BKp4 := aS (xB BKp hb_);have BKe4 := aS (xB BKe hb_);have HB4 := aS (xL hb_ : Below w.heap.size w w4);clear BKp BKe HB;have BKp := BKp4;have BKe := BKe4;have HB := HB4;clear BKp4 BKe4 HB4;have BKr := aS hbx_;clear hg_ hb_ hbx_;refine zz12 BKp.out ?_;intros;refine zz5 BKe.out ?_;intros;refine zz12 BKr.out ?_;intros)) | ((with_reducible refine gD 3 rfl ?_);go_loud (refine bY #[.int .i64 a1_0,.int .i64 a1_1,.int .i64 a1_2,.int .i64 a1_3,.bool a1_4] 50 ?_;intro ge hg_ w3 hbx_ hb_;have GWe := aS (xG hg_ HB : w.heap.size ≤ ge);have NBep := aS (xM hg_ BKp : ge ≠ gp);have NBpe := aS (Ne.symm NBep.out);have nbep := NBep.out;have nbpe := NBpe.out;have BKp3 := aS (xB BKp hb_);have HB3 := aS (xL hb_ : Below w.heap.size w w3);clear BKp HB;have BKp := BKp3;have HB := HB3;clear BKp3 HB3;have BKe := aS hbx_;clear hg_ hb_ hbx_;refine zz12 BKp.out ?_;intros;refine zz5 BKe.out ?_;intros)) | ((with_reducible refine gD 2 rfl ?_);refine bX (w := w) #[.slice A0_0 l0_0.length c0_0,.slice A0_1 l0_1.length c0_1,.int .i64 a0_2,.int .i64 a0_3,.int .i64 a0_4,.int .i64 a0_5,.bool a0_6,.bool a0_7,.slice A0_8 l0_8.length c0_8,.slice A0_9 l0_9.length c0_9,.bool a0_10,.bool a0_11] 36 ?_;clear HB;intro gp w2 HB BKp GWp;refine zz12 BKp.out ?_;intros));refine bodyPost_ret (results_list (rs := [.cell 4 36,.tmp 5]) (vs := [_,_]) rfl (by simp) (by exact (.cell gr 36 #[.slice none 0 0,.slice none 0 0,.int .i64 0,.int .i64 0,.int .i64 0,.int .i64 0,.bool false,.bool false,.slice none 0 0,.slice none 0 0,.bool false,.bool false] (0,0) _ rfl (oP BKr.out) Try.underlying36 rfl (by kernel_rfl) (.tmp .nil)))) rfl ?_;exact ⟨_,_,_,_,by simp,Kd.R_nil _ _ _ _ _,Kd.R_nil _ _ _ _ _,Kd.R_nil _ _ _ _ _,Kd.R_nil _ _ _ _ _,oL⟩
  simp only [if_true] at h;cases a0_11
  case true =>
    rw [if_pos rfl] at h;simp only [Option.some.injEq,Prod.mk.injEq] at h;obtain ⟨rfl,rfl,rfl,rfl,rfl,rfl,rfl,rfl,rfl,rfl,rfl,rfl,rfl⟩ := h;go_enter Try.func18,Try.ntmps18;go_wp2_with (first | ((with_reducible refine gC 32 rfl ?_);refine gN Try.func32 #[.agg #[.slice A0_0 l0_0.length c0_0,.slice A0_1 l0_1.length c0_1,.int .i64 a0_2,.int .i64 a0_3,.int .i64 a0_4,.int .i64 a0_5,.bool a0_6,.bool a0_7,.slice A0_8 l0_8.length c0_8,.slice A0_9 l0_9.length c0_9,.bool a0_10,.bool true]] ?_;(with_reducible refine (impl_GoodCpu.calls k _ _ l0_0 _ _ l0_1 a0_2 a0_3 a0_4 a0_5 a0_6 a0_7 _ _ l0_8 _ _ l0_9 a0_10 true true _ ?s1 hc0_0 ?s2 hc0_1 ?s3 hc0_8 ?s4 hc0_9 hG).mono ?_);(case s1 => exact oC hr0_0);(case s2 => exact oC hr0_1);(case s3 => exact oC hr0_8);(case s4 => exact oC hr0_9);rintro e w5 ⟨rfl,hb5⟩;refine ⟨_,rfl,?_⟩;have BKp5 := aS (xB BKp hb5);have BKe5 := aS (xB BKe hb5);have BKr5 := aS (xB BKr hb5);have HB5 := aS (xL hb5 : Below w.heap.size w w5);clear BKp BKe BKr HB;have BKp := BKp5;have BKe := BKe5;have BKr := BKr5;have HB := HB5;clear BKp5 BKe5 BKr5 HB5;clear hb5;refine zz12 BKp.out ?_;intros;refine zz5 BKe.out ?_;intros;refine zz12 BKr.out ?_;intros) | ((with_reducible refine gD 4 rfl ?_);go_loud (refine bY #[.slice none 0 0,.slice none 0 0,.int .i64 0,.int .i64 0,.int .i64 0,.int .i64 0,.bool false,.bool false,.slice none 0 0,.slice none 0 0,.bool false,.bool false] 36 ?_;intro gr hg_ w4 hbx_ hb_;have GWr := aS (xG hg_ HB : w.heap.size ≤ gr);have NBrp := aS (xM hg_ BKp : gr ≠ gp);have NBpr := aS (Ne.symm NBrp.out);have nbrp := NBrp.out;have nbpr := NBpr.out;have NBre := aS (xM hg_ BKe : gr ≠ ge);have NBer := aS (Ne.symm NBre.out);have nbre := NBre.out;have nber := NBer.out;have BKp4 := aS (xB BKp hb_);have BKe4 := aS (xB BKe hb_);have HB4 := aS (xL hb_ : Below w.heap.size w w4);clear BKp BKe HB;have BKp := BKp4;have BKe := BKe4;have HB := HB4;clear BKp4 BKe4 HB4;have BKr := aS hbx_;clear hg_ hb_ hbx_;refine zz12 BKp.out ?_;intros;refine zz5 BKe.out ?_;intros;refine zz12 BKr.out ?_;intros)) | ((with_reducible refine gD 3 rfl ?_);go_loud (refine bY #[.int .i64 a1_0,.int .i64 a1_1,.int .i64 a1_2,.int .i64 a1_3,.bool a1_4] 50 ?_;intro ge hg_ w3 hbx_ hb_;have GWe := aS (xG hg_ HB : w.heap.size ≤ ge);have NBep := aS (xM hg_ BKp : ge ≠ gp);have NBpe := aS (Ne.symm NBep.out);have nbep := NBep.out;have nbpe := NBpe.out;have BKp3 := aS (xB BKp hb_);have HB3 := aS (xL hb_ : Below w.heap.size w w3);clear BKp HB;have BKp := BKp3;have HB := HB3;clear BKp3 HB3;have BKe := aS hbx_;clear hg_ hb_ hbx_;refine zz12 BKp.out ?_;intros;refine zz5 BKe.out ?_;intros)) | ((with_reducible refine gD 2 rfl ?_);refine bX (w := w) #[.slice A0_0 l0_0.length c0_0,.slice A0_1 l0_1.length c0_1,.int .i64 a0_2,.int .i64 a0_3,.int .i64 a0_4,.int .i64 a0_5,.bool a0_6,.bool a0_7,.slice A0_8 l0_8.length c0_8,.slice A0_9 l0_9.length c0_9,.bool a0_10,.bool true] 36 ?_;clear HB;intro gp w2 HB BKp GWp;refine zz12 BKp.out ?_;intros));refine bodyPost_ret (results_list (rs := [.cell 4 36,.tmp 5]) (vs := [_,_]) rfl (by simp) (by exact (.cell gr 36 #[.slice none 0 0,.slice none 0 0,.int .i64 0,.int .i64 0,.int .i64 0,.int .i64 0,.bool false,.bool false,.slice none 0 0,.slice none 0 0,.bool false,.bool false] (0,0) _ rfl (oP BKr.out) Try.underlying36 rfl (by kernel_rfl) (.tmp .nil)))) rfl ?_;exact ⟨_,_,_,_,by simp,Kd.R_nil _ _ _ _ _,Kd.R_nil _ _ _ _ _,Kd.R_nil _ _ _ _ _,Kd.R_nil _ _ _ _ _,oL⟩
  case false =>
    rw [if_neg (by simp)] at h;obtain ⟨u,hU,h⟩ := bE h;cases u
    · simp only [Bool.false_eq_true,if_false,Option.some.injEq,Prod.mk.injEq] at h
      obtain ⟨rfl,rfl,rfl,rfl,rfl,rfl,rfl,rfl,rfl,rfl,rfl,rfl,rfl⟩ := h;go_enter Try.func18,Try.ntmps18;go_wp2_with (first | (go_at_call 47;go_loud ((with_reducible refine (impl_GoodFault.calls a1_0 a1_1 a1_2 a1_3 a1_4 false _ hU).mono ?_);rintro e w6 ⟨rfl,hb6⟩;have BKp6 := aS (xB BKp hb6);have BKe6 := aS (xB BKe hb6);have BKr6 := aS (xB BKr hb6);have HB6 := aS (xL hb6 : Below w.heap.size w w6);clear BKp BKe BKr HB;have BKp := BKp6;have BKe := BKe6;have BKr := BKr6;have HB := HB6;clear BKp6 BKe6 BKr6 HB6;clear hb6;refine zz12 BKp.out ?_;intros;refine zz5 BKe.out ?_;intros;refine zz12 BKr.out ?_;intros)) | ((with_reducible refine gC 32 rfl ?_);refine gN Try.func32 #[.agg #[.slice A0_0 l0_0.length c0_0,.slice A0_1 l0_1.length c0_1,.int .i64 a0_2,.int .i64 a0_3,.int .i64 a0_4,.int .i64 a0_5,.bool a0_6,.bool a0_7,.slice A0_8 l0_8.length c0_8,.slice A0_9 l0_9.length c0_9,.bool a0_10,.bool false]] ?_;(with_reducible refine (impl_GoodCpu.calls k _ _ l0_0 _ _ l0_1 a0_2 a0_3 a0_4 a0_5 a0_6 a0_7 _ _ l0_8 _ _ l0_9 a0_10 false true _ ?s1 hc0_0 ?s2 hc0_1 ?s3 hc0_8 ?s4 hc0_9 hG).mono ?_);(case s1 => exact oC hr0_0);(case s2 => exact oC hr0_1);(case s3 => exact oC hr0_8);(case s4 => exact oC hr0_9);rintro e w5 ⟨rfl,hb5⟩;refine ⟨_,rfl,?_⟩;have BKp5 := aS (xB BKp hb5);have BKe5 := aS (xB BKe hb5);have BKr5 := aS (xB BKr hb5);have HB5 := aS (xL hb5 : Below w.heap.size w w5);clear BKp BKe BKr HB;have BKp := BKp5;have BKe := BKe5;have BKr := BKr5;have HB := HB5;clear BKp5 BKe5 BKr5 HB5;clear hb5;refine zz12 BKp.out ?_;intros;refine zz5 BKe.out ?_;intros;refine zz12 BKr.out ?_;intros) | ((with_reducible refine gD 4 rfl ?_);go_loud (refine bY #[.slice none 0 0,.slice none 0 0,.int .i64 0,.int .i64 0,.int .i64 0,.int .i64 0,.bool false,.bool false,.slice none 0 0,.slice none 0 0,.bool false,.bool false] 36 ?_;intro gr hg_ w4 hbx_ hb_;have GWr := aS (xG hg_ HB : w.heap.size ≤ gr);have NBrp := aS (xM hg_ BKp : gr ≠ gp);have NBpr := aS (Ne.symm NBrp.out);have nbrp := NBrp.out;have nbpr := NBpr.out;have NBre := aS (xM hg_ BKe : gr ≠ ge);have NBer := aS (Ne.symm NBre.out);have nbre := NBre.out;have nber := NBer.out;have BKp4 := aS (xB BKp hb_);have BKe4 := aS (xB BKe hb_);have HB4 := aS (xL hb_ : Below w.heap.size w w4);clear BKp BKe HB;have BKp := BKp4;have BKe := BKe4;have HB := HB4;clear BKp4 BKe4 HB4;have BKr := aS hbx_;clear hg_ hb_ hbx_;refine zz12 BKp.out ?_;intros;refine zz5 BKe.out ?_;intros;refine zz12 BKr.out ?_;intros)) | ((with_reducible refine gD 3 rfl ?_);go_loud (refine bY #[.int .i64 a1_0,.int .i64 a1_1,.int .i64 a1_2,.int .i64 a1_3,.bool a1_4] 50 ?_;intro ge hg_ w3 hbx_ hb_;have GWe := aS (xG hg_ HB : w.heap.size ≤ ge);have NBep := aS (xM hg_ BKp : ge ≠ gp);have NBpe := aS (Ne.symm NBep.out);have nbep := NBep.out;have nbpe := NBpe.out;have BKp3 := aS (xB BKp hb_);have HB3 := aS (xL hb_ : Below w.heap.size w w3);clear BKp HB;have BKp := BKp3;have HB := HB3;clear BKp3 HB3;have BKe := aS hbx_;clear hg_ hb_ hbx_;refine zz12 BKp.out ?_;intros;refine zz5 BKe.out ?_;intros)) | ((with_reducible refine gD 2 rfl ?_);refine bX (w := w) #[.slice A0_0 l0_0.length c0_0,.slice A0_1 l0_1.length c0_1,.int .i64 a0_2,.int .i64 a0_3,.int .i64 a0_4,.int .i64 a0_5,.bool a0_6,.bool a0_7,.slice A0_8 l0_8.length c0_8,.slice A0_9 l0_9.length c0_9,.bool a0_10,.bool false] 36 ?_;clear HB;intro gp w2 HB BKp GWp;refine zz12 BKp.out ?_;intros));refine bodyPost_ret (results_list (rs := [.cell 4 36,.tmp 5]) (vs := [_,_]) rfl (by simp) (by exact (.cell gr 36 #[.slice none 0 0,.slice none 0 0,.int .i64 0,.int .i64 0,.int .i64 0,.int .i64 0,.bool false,.bool false,.slice none 0 0,.slice none 0 0,.bool false,.bool false] (0,0) _ rfl (oP BKr.out) Try.underlying36 rfl (by kernel_rfl) (.tmp .nil)))) rfl ?_;exact ⟨_,_,_,_,by simp,Kd.R_nil _ _ _ _ _,Kd.R_nil _ _ _ _ _,Kd.R_nil _ _ _ _ _,Kd.R_nil _ _ _ _ _,oL⟩
    simp only [if_true] at h;obtain ⟨⟨D,A,i2,i3,i4,i5,b6,b7,B,L,b10,b11⟩,hO,h⟩ := bE h;dsimp only at h;obtain ⟨fr,hFr,h⟩ := bE h;obtain ⟨st,hSt,h⟩ := bE h;obtain ⟨⟨x1,x2,x3,x4,x5,x6,x7,x8,x9,x10,x11,x12⟩,hEn,h⟩ := bE h;dsimp only at h;simp only [Option.some.injEq,Prod.mk.injEq] at h;obtain ⟨rfl,rfl,rfl,rfl,rfl,rfl,rfl,rfl,rfl,rfl,rfl,rfl,rfl⟩ := h
    have hB0 : 0 < B.length := by
      by_cases hh : 3 < A.length ∧ 0 < B.length ∧ 0 < fr.length ∧ fr.length ≤ 5;{exact hh.2.1};{unfold ienterO at hEn;rw [if_neg hh] at hEn;exact absurd hEn (by simp)}
    go_enter Try.func18,Try.ntmps18;go_wp2_with (first | (go_at_call 48;go_loud (refine (IS.enterT k (IS.own (i2 := i2) (i3 := i3) (i4 := i4) (i5 := i5) (b6 := b6) (b7 := b7) (b10 := b10) (b11 := b11) ho0 ho1 ho8 ho9 (Nat.le_trans hs7 hGo) hs8 BKo.out (by repeat (with_reducible first | exact keep_refl _ _ | apply keep_put | apply keep_drewN | apply keep_drew)) (oP BKo.out)) a1_0 a1_1 a1_2 a1_3 a1_4 fr st x1 x2 x3 x4 x5 x6 x7 x8 x9 x10 x11 x12 hFr hSt hEn).mono ?_;rintro e w9 ⟨⟨u9,rfl⟩,⟨AL8,cL8,hS9⟩,hb9,hf9⟩;have BKr9 := aS (hf9.2 gr _ _ nbro (by decide) (by decide) (oP BKr.out));have HB9 := aS (Below.trans oL (below_low hb9 hle) : Below w.heap.size w w9);clear BKp BKe BKr HB BKo ho0 ho1 ho8 ho9;have BKr := BKr9;have HB := HB9;clear BKr9 HB9 hb9 hf9;refine zz12 BKr.out ?_;intros;refine zz12 hS9.box ?_;intros)) | ((with_reducible refine gD 6 rfl ?_);go_loud (refine bY #[.slice none 0 0,.slice none 0 0,.int .i64 0,.int .i64 0,.int .i64 0,.int .i64 0,.bool false,.bool false,.slice none 0 0,.slice none 0 0,.bool false,.bool false] 36 ?_;intro go hg_ w8 hbx_ hb_;have GWo := aS (xG hg_ HB : w.heap.size ≤ go);have NBop := aS (xM hg_ BKp : go ≠ gp);have NBpo := aS (Ne.symm NBop.out);have nbop := NBop.out;have nbpo := NBpo.out;have NBoe := aS (xM hg_ BKe : go ≠ ge);have NBeo := aS (Ne.symm NBoe.out);have nboe := NBoe.out;have nbeo := NBeo.out;have NBor := aS (xM hg_ BKr : go ≠ gr);have NBro := aS (Ne.symm NBor.out);have nbor := NBor.out;have nbro := NBro.out;have hGo := Nat.le_of_eq hg_.symm;have hs8 := Nat.le_trans hs7 hb_.size;replace ho0 := Kd.R_below ho0 hb_;replace ho1 := Kd.R_below ho1 hb_;replace ho8 := Kd.R_below ho8 hb_;replace ho9 := Kd.R_below ho9 hb_;have BKp8 := aS (xB BKp hb_);have BKe8 := aS (xB BKe hb_);have BKr8 := aS (xB BKr hb_);have HB8 := aS (xL hb_ : Below w.heap.size w w8);clear BKp BKe BKr HB;have BKp := BKp8;have BKe := BKe8;have BKr := BKr8;have HB := HB8;clear BKp8 BKe8 BKr8 HB8;have BKo := aS hbx_;clear hg_ hb_ hbx_;refine zz12 BKp.out ?_;intros;refine zz5 BKe.out ?_;intros;refine zz12 BKr.out ?_;intros;refine zz12 BKo.out ?_;intros)) | ((with_reducible refine gC 33 rfl ?_);refine gN Try.func33 #[.agg #[.slice A0_0 l0_0.length c0_0,.slice A0_1 l0_1.length c0_1,.int .i64 a0_2,.int .i64 a0_3,.int .i64 a0_4,.int .i64 a0_5,.bool a0_6,.bool a0_7,.slice A0_8 l0_8.length c0_8,.slice A0_9 l0_9.length c0_9,.bool a0_10,.bool false]] ?_;go_loud ((with_reducible refine (impl_ownCpu.calls _ _ l0_0 _ _ l0_1 a0_2 a0_3 a0_4 a0_5 a0_6 a0_7 _ _ l0_8 _ _ l0_9 a0_10 false D A i2 i3 i4 i5 b6 b7 B L b10 b11 _ ?s1 hc0_0 ?s2 hc0_1 ?s3 hc0_8 ?s4 hc0_9 hO).mono ?_);(case s1 => exact oC hr0_0);(case s2 => exact oC hr0_1);(case s3 => exact oC hr0_8);(case s4 => exact oC hr0_9);rintro e w7 ⟨v0,v1,v8,v9,rfl,ho0,ho1,ho8,ho9,hb7⟩;refine ⟨_,rfl,?_⟩;have hle := below_size HB.out;have hs7 := below_size hb7;have BKp7 := aS (xB BKp hb7);have BKe7 := aS (xB BKe hb7);have BKr7 := aS (xB BKr hb7);have HB7 := aS (xL hb7 : Below w.heap.size w w7);clear BKp BKe BKr HB;have BKp := BKp7;have BKe := BKe7;have BKr := BKr7;have HB := HB7;clear BKp7 BKe7 BKr7 HB7;clear hb7;obtain ⟨AD,cD,rfl⟩ := Kd.R_slice ho0;obtain ⟨AA,cA,rfl⟩ := Kd.R_slice ho1;obtain ⟨AL,cL,rfl⟩ := Kd.R_slice ho9;obtain ⟨b1,cB,rfl,-⟩ := Kd.R_form ho8 hB0;refine zz12 BKp.out ?_;intros;refine zz5 BKe.out ?_;intros;refine zz12 BKr.out ?_;intros)) | (go_at_call 47;go_loud ((with_reducible refine (impl_GoodFault.calls a1_0 a1_1 a1_2 a1_3 a1_4 true _ hU).mono ?_);rintro e w6 ⟨rfl,hb6⟩;have BKp6 := aS (xB BKp hb6);have BKe6 := aS (xB BKe hb6);have BKr6 := aS (xB BKr hb6);have HB6 := aS (xL hb6 : Below w.heap.size w w6);clear BKp BKe BKr HB;have BKp := BKp6;have BKe := BKe6;have BKr := BKr6;have HB := HB6;clear BKp6 BKe6 BKr6 HB6;clear hb6;refine zz12 BKp.out ?_;intros;refine zz5 BKe.out ?_;intros;refine zz12 BKr.out ?_;intros)) | ((with_reducible refine gC 32 rfl ?_);refine gN Try.func32 #[.agg #[.slice A0_0 l0_0.length c0_0,.slice A0_1 l0_1.length c0_1,.int .i64 a0_2,.int .i64 a0_3,.int .i64 a0_4,.int .i64 a0_5,.bool a0_6,.bool a0_7,.slice A0_8 l0_8.length c0_8,.slice A0_9 l0_9.length c0_9,.bool a0_10,.bool false]] ?_;(with_reducible refine (impl_GoodCpu.calls k _ _ l0_0 _ _ l0_1 a0_2 a0_3 a0_4 a0_5 a0_6 a0_7 _ _ l0_8 _ _ l0_9 a0_10 false true _ ?s1 hc0_0 ?s2 hc0_1 ?s3 hc0_8 ?s4 hc0_9 hG).mono ?_);(case s1 => exact oC hr0_0);(case s2 => exact oC hr0_1);(case s3 => exact oC hr0_8);(case s4 => exact oC hr0_9);rintro e w5 ⟨rfl,hb5⟩;refine ⟨_,rfl,?_⟩;have BKp5 := aS (xB BKp hb5);have BKe5 := aS (xB BKe hb5);have BKr5 := aS (xB BKr hb5);have HB5 := aS (xL hb5 : Below w.heap.size w w5);clear BKp BKe BKr HB;have BKp := BKp5;have BKe := BKe5;have BKr := BKr5;have HB := HB5;clear BKp5 BKe5 BKr5 HB5;clear hb5;refine zz12 BKp.out ?_;intros;refine zz5 BKe.out ?_;intros;refine zz12 BKr.out ?_;intros) | ((with_reducible refine gD 4 rfl ?_);go_loud (refine bY #[.slice none 0 0,.slice none 0 0,.int .i64 0,.int .i64 0,.int .i64 0,.int .i64 0,.bool false,.bool false,.slice none 0 0,.slice none 0 0,.bool false,.bool false] 36 ?_;intro gr hg_ w4 hbx_ hb_;have GWr := aS (xG hg_ HB : w.heap.size ≤ gr);have NBrp := aS (xM hg_ BKp : gr ≠ gp);have NBpr := aS (Ne.symm NBrp.out);have nbrp := NBrp.out;have nbpr := NBpr.out;have NBre := aS (xM hg_ BKe : gr ≠ ge);have NBer := aS (Ne.symm NBre.out);have nbre := NBre.out;have nber := NBer.out;have BKp4 := aS (xB BKp hb_);have BKe4 := aS (xB BKe hb_);have HB4 := aS (xL hb_ : Below w.heap.size w w4);clear BKp BKe HB;have BKp := BKp4;have BKe := BKe4;have HB := HB4;clear BKp4 BKe4 HB4;have BKr := aS hbx_;clear hg_ hb_ hbx_;refine zz12 BKp.out ?_;intros;refine zz5 BKe.out ?_;intros;refine zz12 BKr.out ?_;intros)) | ((with_reducible refine gD 3 rfl ?_);go_loud (refine bY #[.int .i64 a1_0,.int .i64 a1_1,.int .i64 a1_2,.int .i64 a1_3,.bool a1_4] 50 ?_;intro ge hg_ w3 hbx_ hb_;have GWe := aS (xG hg_ HB : w.heap.size ≤ ge);have NBep := aS (xM hg_ BKp : ge ≠ gp);have NBpe := aS (Ne.symm NBep.out);have nbep := NBep.out;have nbpe := NBpe.out;have BKp3 := aS (xB BKp hb_);have HB3 := aS (xL hb_ : Below w.heap.size w w3);clear BKp HB;have BKp := BKp3;have HB := HB3;clear BKp3 HB3;have BKe := aS hbx_;clear hg_ hb_ hbx_;refine zz12 BKp.out ?_;intros;refine zz5 BKe.out ?_;intros)) | ((with_reducible refine gD 2 rfl ?_);refine bX (w := w) #[.slice A0_0 l0_0.length c0_0,.slice A0_1 l0_1.length c0_1,.int .i64 a0_2,.int .i64 a0_3,.int .i64 a0_4,.int .i64 a0_5,.bool a0_6,.bool a0_7,.slice A0_8 l0_8.length c0_8,.slice A0_9 l0_9.length c0_9,.bool a0_10,.bool false] 36 ?_;clear HB;intro gp w2 HB BKp GWp;refine zz12 BKp.out ?_;intros));refine bodyPost_ret (results_list (rs := [.cell 4 36,.tmp 5]) (vs := [_,_]) rfl (by simp) (by exact (.cell gr 36 #[.slice AD x1.length cD,.slice AA x2.length cA,.int .i64 x3,.int .i64 x4,.int .i64 x5,.int .i64 x6,.bool x7,.bool x8,.slice (some ⟨b1,0,none⟩) x9.length cB,.slice AL8 x10.length cL8,.bool x11,.bool x12] (0,0) _ rfl (oP BKr.out) Try.underlying36 rfl (by kernel_rfl) (.tmp .nil)))) rfl ?_;obtain ⟨-,-,-,hD,hA,hB,hL⟩ := hS9;exact ⟨_,_,_,_,by simp,Kd.R_mono (Kd.R_lower (oF hD BKr.out) hle) (fun k_ h_ => ⟨h_.1,fun e_ => h_.2 (by simpa [Value.ownBlock] using e_)⟩),Kd.R_mono (Kd.R_lower (oF hA BKr.out) hle) (fun k_ h_ => ⟨h_.1,fun e_ => h_.2 (by simpa [Value.ownBlock] using e_)⟩),Kd.R_mono (Kd.R_lower (oF hB BKr.out) hle) (fun k_ h_ => h_),Kd.R_mono (Kd.R_lower (oF hL BKr.out) hle) (fun k_ h_ => trivial),oL⟩

end Go.Proofs.Ythlhapafipikmaa.E
