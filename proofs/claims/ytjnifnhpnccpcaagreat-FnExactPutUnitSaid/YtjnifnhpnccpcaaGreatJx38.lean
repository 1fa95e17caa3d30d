-- Made by this session's program gprint.py out of the translation. Not trusted: Lean checks it.
import Derived.Test.YtjnifnhpnccpcaaGreatJx0
import Derived.Test.YtjnifnhpnccpcaaGreatJx3
import Derived.Test.YtjnifnhpnccpcaaGreatJx15
import Derived.Test.YtjnifnhpnccpcaaGreatJx16
import Derived.Test.YtjnifnhpnccpcaaGreatJx17
import Derived.Test.YtjnifnhpnccpcaaGreatJx31
import Derived.Test.YtjnifnhpnccpcaaGreatJx33
import Derived.Test.YtjnifnhpnccpcaaGreatJx34
import Derived.Test.YtjnifnhpnccpcaaGreatJx36
import Derived.Test.YtjnifnhpnccpcaaGreatJx37
namespace Go.Proofs.YtjnifnhpnccpcaaGreat.J
open Go.RowKit Go.Proofs.YtjnifnhpnccpcaaGreatW.PrintWords Go.Proofs.YtjnifnhpnccpcaaGreatW.PrintLast Go.Proofs.YtjnifnhpnccpcaaGreatW.PrintMore
attribute [local go_sem] max2_int min2_int max_two min_two max_three min_three max_four min_four
set_option linter.unusedVariables false
set_option linter.unusedSimpArgs false
section
variable {α : Type} {d : Kd α} {e : Nat} {w w1 : World} {base : Nat} {ok : Nat → Prop} {v : Value} {xs : List α}
theorem fS_step (h : Kd.S d e w base ok v xs) (hm : ∀ k,ok k → base ≤ k → k < w.heap.size → w1.heap[k]? = w.heap[k]?) : Kd.S d e w1 base ok v xs:=by
  obtain ⟨f,h⟩:=h
  exact ⟨f,Kd.R_mono (Kd.R_step (Kd.R_bound h) (fun k hk hlt => hm k hk.1 hk.2.1 hlt)) (fun _ hk => hk.1)⟩
theorem fR_step (h : d.R e w base ok v xs) (hm : ∀ k,ok k → base ≤ k → k < w.heap.size → w1.heap[k]? = w.heap[k]?) : d.R e w1 base ok v xs :=
  Kd.R_mono (Kd.R_step (Kd.R_bound h) (fun k hk hlt => hm k hk.1 hk.2.1 hlt)) (fun _ hk => hk.1)
theorem fS_win (h : Kd.S d e w base ok v xs) : Kd.S d e w base (fun k => ok k ∧ base ≤ k ∧ k < w.heap.size) v xs:=by
  obtain ⟨f,h⟩:=h
  exact ⟨f,Kd.R_mono (Kd.R_bound h) (fun k hk => ⟨hk.1,hk.2.1,hk.2.2.1⟩)⟩
theorem fR_win (h : d.R e w base ok v xs) : d.R e w base (fun k => ok k ∧ base ≤ k ∧ k < w.heap.size) v xs:=Kd.R_mono (Kd.R_bound h) (fun k hk => ⟨hk.1,hk.2.1,hk.2.2.1⟩)
theorem fS_low {b' : Nat} (h : Kd.S d e w base ok v xs) (hb : b' ≤ base) : Kd.S d e w b' ok v xs:=by
  obtain ⟨f,h⟩:=h
  exact ⟨f,Kd.R_lower h hb⟩
theorem fS_mono {ok' : Nat → Prop} (h : Kd.S d e w base ok v xs) (hk : ∀ k,ok k → ok' k) : Kd.S d e w base ok' v xs:=by
  obtain ⟨f,h⟩:=h
  exact ⟨f,Kd.R_mono h hk⟩
end
theorem fNe {b g n : Nat} (hg : g = n) (h : b < n) : Aside0 (b < g) ∧ Aside0 (g ≠ b) ∧ Aside0 (b ≠ g) ∧ g ≠ b ∧ b ≠ g:=by subst hg;exact ⟨⟨h⟩,⟨Nat.ne_of_gt h⟩,⟨Nat.ne_of_lt h⟩,Nat.ne_of_gt h,Nat.ne_of_lt h⟩
theorem fSp {α : Type} {d : Kd α} {e : Nat} {w w1 : World} {base g g' : Nat} {ok : Nat → Prop} {v : Value} {xs : List α} (h : Kd.S d e w base ok v xs) (hk : ∀ k,ok k → k ≠ g ∧ k ≠ g') (s : Keep2 w w1 g g':=by repeat (with_reducible first | exact keep2_refl _ _ _ | apply keep2_put1 | apply keep2_put2 | apply keep2_drewN | apply keep2_drew)) : Kd.S d e w1 base ok v xs:=fS_step h (fun k h0 _ hl => s.2 k hl (hk k h0).1 (hk k h0).2)
theorem fRp {α : Type} {d : Kd α} {e : Nat} {w w1 : World} {base g g' : Nat} {ok : Nat → Prop} {v : Value} {xs : List α} (h : d.R e w base ok v xs) (hk : ∀ k,ok k → k ≠ g ∧ k ≠ g') (s : Keep2 w w1 g g':=by repeat (with_reducible first | exact keep2_refl _ _ _ | apply keep2_put1 | apply keep2_put2 | apply keep2_drewN | apply keep2_drew)) : d.R e w1 base ok v xs:=fR_step h (fun k h0 _ hl => s.2 k hl (hk k h0).1 (hk k h0).2)
theorem fZ {w W W2 : World} (h : Below w.heap.size w W) (hb : Below W.heap.size W W2) : Below w.heap.size w W2:=h.trans (below_low' hb h.size)
theorem fSb {α : Type} {d : Kd α} {e : Nat} {w w1 : World} {base : Nat} {ok : Nat → Prop} {v : Value} {xs : List α} (h : Kd.S d e w base ok v xs) (hb : Below w.heap.size w w1) : Kd.S d e w1 base ok v xs:=fS_step h (fun k _ _ hl => hb.block k hl)
theorem fRb {α : Type} {d : Kd α} {e : Nat} {w w1 : World} {base : Nat} {ok : Nat → Prop} {v : Value} {xs : List α} (h : d.R e w base ok v xs) (hb : Below w.heap.size w w1) : d.R e w1 base ok v xs:=fR_step h (fun k _ _ hl => hb.block k hl)
theorem fSlt {α : Type} {d : Kd α} {e : Nat} {w : World} {base : Nat} {ok : Nat → Prop} {v : Value} {xs : List α} (h : Kd.S d e w base ok v xs) : Kd.S d e w base (fun k => k < w.heap.size) v xs:=fS_mono (fS_win h) (fun _ hk => hk.2.2)
abbrev bB (W : World) (t g : Nat) (a b : Int) (A : Option Addr) (n c : Nat) : Prop:=W.heap[g]? = some (.cells #[.int .i64 a,.int .i64 b,.slice A n c] t (0,0))
abbrev rS (w W : World) (ok : Nat → Prop) (A : Option Addr) (c : Nat) (l : List S60) : Prop:=Kd.S k60 60 W w.heap.size ok (.slice A l.length c) l
abbrev rR (w W : World) (ok : Nat → Prop) (A : Option Addr) (c : Nat) (l : List S70) : Prop:=Kd.R k70 70 W w.heap.size ok (.slice A l.length c) l
theorem fW {P : Program} {c : Code} {Q : Exit → Act → World → Prop} {a : Act} {W : World} (F : World → Prop) (hF : F W) (h : ∀ W',F W' → c.wp P Q a W') : c.wp P Q a W:=h W hF
def laws_FnExactPutUnit.f (k : Nat) (a0_0 a0_1 : Int) (l0_2 : List S58) (a1_0 a1_1 : Int) (l1_2 : List S84) : Option Bool :=
  (laws_szStore.f k a0_0 a0_1 l0_2 1048576).bind fun t => if t < 0 then some true else (laws_szUnit.f a1_0 a1_1 l1_2 t).bind fun t2 => if t2 < 0 then some true else
    (laws_toStore.f k a0_0 a0_1 l0_2).bind fun X => (laws_toUnit.f k a1_0 a1_1 l1_2).bind fun Y =>
     (spec_PutUnit.f k X.1 X.2.1 X.2.2 Y.1 Y.2.1 Y.2.2).bind fun V => (impl_PutUnit.f k X.1 X.2.1 X.2.2 Y.1 Y.2.1 Y.2.2).bind fun G =>
      (laws_eqStore.f k G.1 G.2.1 G.2.2.1 V.1 V.2.1 V.2.2.1).bind fun b1 => (laws_eqStore.f k X.1 X.2.1 X.2.2 X.1 X.2.1 X.2.2).bind fun b3 => (laws_eqUnit.f k Y.1 Y.2.1 Y.2.2 Y.1 Y.2.1 Y.2.2).bind fun b4 =>
        if b1 = true ∧ G.2.2.2 = V.2.2.2 ∧ b3 = true ∧ b4 = true then
          (laws_markStore.f k X.1 X.2.1 X.2.2 1).bind fun K => (laws_markUnit.f k Y.1 Y.2.1 Y.2.2 K.1).bind fun L => (laws_markStore.f k G.1 G.2.1 G.2.2.1 1).bind fun M =>
            (laws_heldStore.f k G.1 G.2.1 M.2 1).bind fun q1 => if 0 ≤ L.1 ∧ 0 ≤ q1 ∧ q1 = M.1 then some true else none
        else none
set_option maxHeartbeats 8000000 in
set_option maxRecDepth 100000 in
theorem laws_FnExactPutUnit.calls (k : Nat) (a0_0 : Int) (a0_1 : Int) (A0_2 : Option Addr) (c0_2 : Nat) (l0_2 : List S58) (a1_0 : Int) (a1_1 : Int) (A1_2 : Option Addr) (c1_2 : Nat) (l1_2 : List S84) (r : Bool) (hr_ : Aside0 (r = true)) (w : World) (hr0_2 : Kd.C k58 w A0_2 l0_2.length l0_2) (hc0_2 : l0_2.length ≤ c0_2) (hr1_2 : Kd.C k84 w A1_2 l1_2.length l1_2) (hc1_2 : l1_2.length ≤ c1_2) (h : laws_FnExactPutUnit.f k a0_0 a0_1 l0_2 a1_0 a1_1 l1_2 = some r) :
    Calls Tryz.prog 3 #[.agg #[.int .i64 a0_0,.int .i64 a0_1,.slice A0_2 l0_2.length c0_2],.agg #[.int .i64 a1_0,.int .i64 a1_1,.slice A1_2 l1_2.length c1_2]] w fun e w' => e = .returned (.bool r) ∧ Below w.heap.size w w':=by
  have hu56:=Tryz.underlying24
  have hu57:=Tryz.underlying27
  have hu61:=Tryz.underlying32
  have hu41:=Tryz.underlying38
  have hrt:=hr_.out
  subst hrt
  unfold laws_FnExactPutUnit.f at h
  replace h:=bE h;obtain ⟨t,hT,h⟩:=h
  by_cases ht : t < 0
  · have k0:=decide_eq_true ht
    go_enter Tryz.func3,Tryz.ntmps3
    go_wp2_with (first | (go_at_call 4;go_loud ((with_reducible refine (laws_szStore.calls k a0_0 a0_1 _ _ l0_2 1048576 t _ ?s1 hc0_2 hT).mono ?_);(case s1 => exact Kd.C_below hr0_2 (fZ BA.out BZ.out));rintro e w3 ⟨rfl,hb⟩;replace BZ:=aS (fZ BZ.out hb);replace KB:=aS (blk_below KB.out hb);clear hb;skip;refine zz3 KB.out ?_;intros)) | ((with_reducible refine gD 3 rfl ?_);go_loud (refine bY #[.int .i64 a1_0,.int .i64 a1_1,.slice A1_2 l1_2.length c1_2] 27 ?_;intro gb hg_ w2 hbx hb;have Lgb:=aS (Nat.le_trans (below_size (fZ BA.out BZ.out)) (Nat.le_of_eq hg_.symm));obtain ⟨lt_gagb,A_gbga,A_gagb,n_gbga,n_gagb⟩:=fNe hg_ (blk_lt (blk_below KA.out BZ.out));replace BZ:=aS (fZ BZ.out hb);have KB:=aS hbx;clear hg_ hb hbx;skip;refine zz3 (blk_below KA.out BZ.out) ?_;intros;refine zz3 KB.out ?_;intros)) | ((with_reducible refine gD 2 rfl ?_);go_loud (refine bY #[.int .i64 a0_0,.int .i64 a0_1,.slice A0_2 l0_2.length c0_2] 24 ?_;intro ga hg_ w1 hbx hb;have BA:=aS hb;have KA:=aS hbx;have Lga:=aS (Nat.le_of_eq hg_.symm : w.heap.size ≤ ga);clear hg_ hb hbx;have BZ:=aS (Below.refl w1.heap.size w1))))
    go_ret
    exact ⟨rfl,fZ BA.out BZ.out⟩
  have k0:=decide_eq_false ht
  rw [if_neg ht] at h
  replace h:=bE h;obtain ⟨t2,hT2,h⟩:=h
  by_cases ht2 : t2 < 0
  · have k1:=decide_eq_true ht2
    go_enter Tryz.func3,Tryz.ntmps3
    go_wp2_with (first | (go_at_call 5;go_loud ((with_reducible refine (laws_szUnit.calls a1_0 a1_1 _ _ l1_2 t t2 _ ?s1 hc1_2 hT2).mono ?_);(case s1 => exact Kd.C_below hr1_2 (fZ BA.out BZ.out));rintro e w4 ⟨rfl,hb⟩;replace BZ:=aS (fZ BZ.out hb);replace KB:=aS (blk_below KB.out hb);clear hb;skip;refine zz3 (blk_below KA.out BZ.out) ?_;intros;refine zz3 KB.out ?_;intros)) | (go_at_call 4;go_loud ((with_reducible refine (laws_szStore.calls k a0_0 a0_1 _ _ l0_2 1048576 t _ ?s1 hc0_2 hT).mono ?_);(case s1 => exact Kd.C_below hr0_2 (fZ BA.out BZ.out));rintro e w3 ⟨rfl,hb⟩;replace BZ:=aS (fZ BZ.out hb);replace KB:=aS (blk_below KB.out hb);clear hb;skip;refine zz3 KB.out ?_;intros)) | ((with_reducible refine gD 3 rfl ?_);go_loud (refine bY #[.int .i64 a1_0,.int .i64 a1_1,.slice A1_2 l1_2.length c1_2] 27 ?_;intro gb hg_ w2 hbx hb;have Lgb:=aS (Nat.le_trans (below_size (fZ BA.out BZ.out)) (Nat.le_of_eq hg_.symm));obtain ⟨lt_gagb,A_gbga,A_gagb,n_gbga,n_gagb⟩:=fNe hg_ (blk_lt (blk_below KA.out BZ.out));replace BZ:=aS (fZ BZ.out hb);have KB:=aS hbx;clear hg_ hb hbx;skip;refine zz3 (blk_below KA.out BZ.out) ?_;intros;refine zz3 KB.out ?_;intros)) | ((with_reducible refine gD 2 rfl ?_);go_loud (refine bY #[.int .i64 a0_0,.int .i64 a0_1,.slice A0_2 l0_2.length c0_2] 24 ?_;intro ga hg_ w1 hbx hb;have BA:=aS hb;have KA:=aS hbx;have Lga:=aS (Nat.le_of_eq hg_.symm : w.heap.size ≤ ga);clear hg_ hb hbx;have BZ:=aS (Below.refl w1.heap.size w1))))
    go_ret
    exact ⟨rfl,fZ BA.out BZ.out⟩
  · have k1:=decide_eq_false ht2
    rw [if_neg ht2] at h
    replace h:=bE h;obtain ⟨⟨x1,x2,lX⟩,hX,h⟩:=h
    replace h:=bE h;obtain ⟨⟨y1,y2,lY⟩,hY,h⟩:=h
    dsimp only at h
    replace h:=bE h;obtain ⟨⟨r1,r2,lW,r4⟩,hV,h⟩:=h
    dsimp only at h
    replace h:=bE h;obtain ⟨⟨g1,g2,lG,g4⟩,hG,h⟩:=h
    dsimp only at h
    replace h:=bE h;obtain ⟨b1,hb1,h⟩:=h
    replace h:=bE h;obtain ⟨b3,hb3,h⟩:=h
    replace h:=bE h;obtain ⟨b4,hb4,h⟩:=h
    by_cases hbb : b1 = true ∧ g4 = r4 ∧ b3 = true ∧ b4 = true
    rotate_left
    · rw [if_neg hbb] at h;exact absurd h (by simp)
    · rw [if_pos hbb] at h
      obtain ⟨rfl,rfl,rfl,rfl⟩:=hbb
      replace h:=bE h;obtain ⟨⟨K1,K2⟩,hK,h⟩:=h
      replace h:=bE h;obtain ⟨⟨L1,L2⟩,hL,h⟩:=h
      replace h:=bE h;obtain ⟨⟨M1,M2⟩,hM,h⟩:=h
      replace h:=bE h;obtain ⟨q1,hq1,h⟩:=h
      dsimp only at hL hq1 h
      by_cases hqq : 0 ≤ L1 ∧ 0 ≤ q1 ∧ q1 = M1
      rotate_left
      · rw [if_neg hqq] at h;exact absurd h (by simp)
      · clear h
        go_enter Tryz.func3,Tryz.ntmps3
        go_upto_region 8 with (first | (go_at_call 5;go_loud ((with_reducible refine (laws_szUnit.calls a1_0 a1_1 _ _ l1_2 t t2 _ ?s1 hc1_2 hT2).mono ?_);(case s1 => exact Kd.C_below hr1_2 (fZ BA.out BZ.out));rintro e w4 ⟨rfl,hb⟩;replace BZ:=aS (fZ BZ.out hb);replace KB:=aS (blk_below KB.out hb);clear hb;skip;refine zz3 (blk_below KA.out BZ.out) ?_;intros;refine zz3 KB.out ?_;intros)) | (go_at_call 4;go_loud ((with_reducible refine (laws_szStore.calls k a0_0 a0_1 _ _ l0_2 1048576 t _ ?s1 hc0_2 hT).mono ?_);(case s1 => exact Kd.C_below hr0_2 (fZ BA.out BZ.out));rintro e w3 ⟨rfl,hb⟩;replace BZ:=aS (fZ BZ.out hb);replace KB:=aS (blk_below KB.out hb);clear hb;skip;refine zz3 KB.out ?_;intros)) | ((with_reducible refine gD 3 rfl ?_);go_loud (refine bY #[.int .i64 a1_0,.int .i64 a1_1,.slice A1_2 l1_2.length c1_2] 27 ?_;intro gb hg_ w2 hbx hb;have Lgb:=aS (Nat.le_trans (below_size (fZ BA.out BZ.out)) (Nat.le_of_eq hg_.symm));obtain ⟨lt_gagb,A_gbga,A_gagb,n_gbga,n_gagb⟩:=fNe hg_ (blk_lt (blk_below KA.out BZ.out));replace BZ:=aS (fZ BZ.out hb);have KB:=aS hbx;clear hg_ hb hbx;skip;refine zz3 (blk_below KA.out BZ.out) ?_;intros;refine zz3 KB.out ?_;intros)) | ((with_reducible refine gD 2 rfl ?_);go_loud (refine bY #[.int .i64 a0_0,.int .i64 a0_1,.slice A0_2 l0_2.length c0_2] 24 ?_;intro ga hg_ w1 hbx hb;have BA:=aS hb;have KA:=aS hbx;have Lga:=aS (Nat.le_of_eq hg_.symm : w.heap.size ≤ ga);clear hg_ hb hbx;have BZ:=aS (Below.refl w1.heap.size w1))))
        replace BA:=aS (fZ BA.out BZ.out)
        replace KA:=aS (blk_below KA.out BZ.out)
        replace KB:=aS KB.out
        replace BA:=aS (below_drew1 BA.out)
        replace KA:=aS (blk_drew KA.out)
        replace KB:=aS (blk_drew KB.out)
        refine start_ (n:=11) (S:=fun w' => w'.cell? ⟨ga,0,none⟩ = some (.int .i64 a0_0) ∧ w'.cell? ⟨ga,1,none⟩ = some (.int .i64 a0_1) ∧ w'.cell? ⟨ga,2,none⟩ = some (.slice A0_2 l0_2.length c0_2) ∧ w'.cell? ⟨gb,0,none⟩ = some (.int .i64 a1_0) ∧ w'.cell? ⟨gb,1,none⟩ = some (.int .i64 a1_1) ∧ w'.cell? ⟨gb,2,none⟩ = some (.slice A1_2 l1_2.length c1_2)) (ds:=[]) (bA 11 0) (by kernel_rfl) rfl rfl ⟨xc KA,xc KA,xc KA,xc KB,xc KB,xc KB⟩ (fun hHeld => ?_)
        clear BZ
        generalize w4.drew = w5 at BA KA KB hHeld ⊢
        have BZ:=aS (Below.refl w5.heap.size w5)
        refine tB 0 28 1 ?_
        refine tB 2 30 5 ?_
        refine join_ (σ:=Option Addr × Nat × Option Addr × Nat × Option Addr × Nat × Nat) 2 (bA 11 511) (fun s_ => [(29,.agg #[.int .i64 x1,.int .i64 x2,.slice s_.2.2.1 lX.length s_.2.2.2.1]),(31,.agg #[.int .i64 y1,.int .i64 y2,.slice s_.2.2.2.2.1 lY.length s_.2.2.2.2.2.1]),(32,.tuple #[.agg #[.int .i64 r1,.int .i64 r2,.slice s_.1 lW.length s_.2.1],.bool g4]),(27,.tuple #[.agg #[.int .i64 r1,.int .i64 r2,.slice s_.1 lW.length s_.2.1],.bool g4]),(33,.agg #[.int .i64 r1,.int .i64 r2,.slice s_.1 lW.length s_.2.1]),(34,.bool g4),(6,.pointer (some ⟨s_.2.2.2.2.2.2,0,none⟩))]) (fun s_ w' => (w'.cell? ⟨ga,0,none⟩ = some (.int .i64 a0_0) ∧ w'.cell? ⟨ga,1,none⟩ = some (.int .i64 a0_1) ∧ w'.cell? ⟨ga,2,none⟩ = some (.slice A0_2 l0_2.length c0_2) ∧ w'.cell? ⟨gb,0,none⟩ = some (.int .i64 a1_0) ∧ w'.cell? ⟨gb,1,none⟩ = some (.int .i64 a1_1) ∧ w'.cell? ⟨gb,2,none⟩ = some (.slice A1_2 l1_2.length c1_2)) ∧ Below w5.heap.size w5 w' ∧ (w'.heap[s_.2.2.2.2.2.2]? = some (.cells #[.int .i64 0,.int .i64 0,.slice none 0 0] 32 (0,0))) ∧ rS w w' (fun k_ => k_ ≠ s_.2.2.2.2.2.2) s_.1 s_.2.1 lW ∧ w5.heap.size ≤ s_.2.2.2.2.2.2) ?_ ?_
        rotate_left
        · intro hCont
          refine two_ (i:=1) (j:=8) (Ni:=some 29) (Nj:=some 6) (bA 11 7) (bA 11 261) rfl rfl rfl rfl (by kernel_rfl) (by decide) (by decide) (fun K hK => ?_) (fun K hK => ?_)
          · refine goesS Tryz.func7 #[.agg #[.int .i64 a0_0,.int .i64 a0_1,.slice A0_2 l0_2.length c0_2]] ?_;with_reducible refine (laws_toStore.calls k a0_0 a0_1 _ _ l0_2 x1 x2 lX _ ?s1 hc0_2 hX).mono ?_;(case s1 => exact Kd.C_below hr0_2 (fZ BA.out BZ.out));rintro e w40 ⟨vT,rfl,hS,hb⟩;refine ⟨_,rfl,?_⟩;replace BZ:=aS (fZ BZ.out hb);obtain ⟨AT,cT,rfl⟩:=Kd.S_slice hS;have HT:=aS (Kd.S_reads' hS).2;clear hS hb;refine hK.out _ _ (czc3 (blk_below KA.out BZ.out) (cz3 (blk_below KB.out BZ.out))) (fun hHeld => ?_);clear hK K;refine norm_ (a':=?_) ?_ ?_;rotate_left;{show Act.put _ (some 29) _ = _;go_frame;(try simp only [i64_w,i32_w]);rfl}
            refine two_ (i:=3) (j:=8) (Ni:=some 31) (Nj:=some 6) (bA 11 15) (bA 11 263) rfl rfl rfl rfl (by kernel_rfl) (by decide) (by decide) (fun K hK => ?_) (fun K hK => ?_)
            · refine goesS Tryz.func8 #[.agg #[.int .i64 a1_0,.int .i64 a1_1,.slice A1_2 l1_2.length c1_2]] ?_;with_reducible refine (laws_toUnit.calls k a1_0 a1_1 _ _ l1_2 y1 y2 lY _ ?s1 hc1_2 hY).mono ?_;(case s1 => exact Kd.C_below hr1_2 (fZ BA.out BZ.out));rintro e w41 ⟨vU,rfl,hS,hb⟩;refine ⟨_,rfl,?_⟩;replace BZ:=aS (fZ BZ.out hb);replace HT:=aS (And.intro HT.out.1 (Kd.C_below HT.out.2 hb));obtain ⟨AU,cU,rfl⟩:=Kd.R_slice hS;have HU:=aS (Kd.R_reads' hS).2;clear hS hb;refine hK.out _ _ (czc3 (blk_below KA.out BZ.out) (cz3 (blk_below KB.out BZ.out))) (fun hHeld => ?_);clear hK K;refine norm_ (a':=?_) ?_ ?_;rotate_left;{show Act.put _ (some 31) _ = _;go_frame;(try simp only [i64_w,i32_w]);rfl}
              refine two_ (i:=4) (j:=8) (Ni:=some 32) (Nj:=some 6) (bA 11 31) (bA 11 271) rfl rfl rfl rfl (by kernel_rfl) (by decide) (by decide) (fun K hK => ?_) (fun K hK => ?_)
              · refine goesS Tryz.func6 #[.agg #[.int .i64 x1,.int .i64 x2,.slice AT lX.length cT],.agg #[.int .i64 y1,.int .i64 y2,.slice AU lY.length cU]] ?_;with_reducible refine (spec_PutUnit.calls k x1 x2 _ _ lX y1 y2 _ _ lY r1 r2 lW g4 _ HT.out.2 HT.out.1 HU.out.2 HU.out.1 hV).mono ?_;rintro e w42 ⟨vW,rfl,hS,hb⟩;refine ⟨_,rfl,?_⟩;have hle_:=below_size (fZ BA.out BZ.out);have hlt_:=trivial;replace BZ:=aS (fZ BZ.out hb);replace HT:=aS (And.intro HT.out.1 (Kd.C_below HT.out.2 hb));replace HU:=aS (And.intro HU.out.1 (Kd.C_below HU.out.2 hb));obtain ⟨AW,cW,rfl⟩:=Kd.S_slice hS;have RW:=aS (fS_low (fS_mono (fS_win hS) (fun k_ hk_ => (trivial : (fun _ => True) k_))) hle_);clear hS hb hle_ hlt_;refine hK.out _ _ (czc3 (blk_below KA.out BZ.out) (cz3 (blk_below KB.out BZ.out))) (fun hHeld => ?_);clear hK K;refine norm_ (a':=?_) ?_ ?_;rotate_left;{show Act.put _ (some 32) _ = _;go_frame;(try simp only [i64_w,i32_w]);rfl}
                refine pB 5 27 63 ?_
                refine pB 6 33 127 ?_
                refine pB 7 34 255 ?_
                refine oneB 8 6 511 fun K hK => ?_
                refine box_step ?hg (N:=6) ?hd (cs:=#[.int .i64 0,.int .i64 0,.slice none 0 0]) (t:=32) ?hr ?_;(case hd => rfl);(case hg => rfl);(case hr => first | (go_simp;done) | (go_simp;rfl));intro gw0 hg_ w43 hbx hb;have Ggw0:=aS (by rw [hg_];exact BZ.out.size : w5.heap.size ≤ gw0);replace RW:=aS (fS_mono (fS_win RW.out) (fun k_ hk_ => (by rw [hg_];exact Nat.ne_of_lt hk_.2.2 : k_ ≠ gw0)));replace BZ:=aS (fZ BZ.out hb);replace HT:=aS (And.intro HT.out.1 (Kd.C_below HT.out.2 hb));replace HU:=aS (And.intro HU.out.1 (Kd.C_below HU.out.2 hb));replace RW:=aS (fSb RW.out hb);have Kgw0:=aS hbx;clear hg_ hb hbx;refine hK.out _ _ (czc3 (blk_below KA.out BZ.out) (cz3 (blk_below KB.out BZ.out))) (fun hHeld => ?_);clear hK K;refine norm_ (a':=?_) ?_ ?_;rotate_left;{show Act.put _ (some 6) _ = _;go_frame;(try simp only [i64_w,i32_w]);rfl}
                exact norm_ (by simp only [putAll,Act.put,List.setIfInBounds_toArray,List.set_cons_zero,List.set_cons_succ]) (hCont (AW,cW,AT,cT,AU,cU,gw0) _ ⟨hHeld,BZ.out,Kgw0.out,RW.out,Ggw0.out⟩)
              · refine box_step ?hg (N:=6) ?hd (cs:=#[.int .i64 0,.int .i64 0,.slice none 0 0]) (t:=32) ?hr ?_;(case hd => rfl);(case hg => rfl);(case hr => first | (go_simp;done) | (go_simp;rfl));intro gw0 hg_ w42 hbx hb;have Ggw0:=aS (by rw [hg_];exact BZ.out.size : w5.heap.size ≤ gw0);replace BZ:=aS (fZ BZ.out hb);replace HT:=aS (And.intro HT.out.1 (Kd.C_below HT.out.2 hb));replace HU:=aS (And.intro HU.out.1 (Kd.C_below HU.out.2 hb));have Kgw0:=aS hbx;clear hg_ hb hbx;refine hK.out _ _ (czc3 (blk_below KA.out BZ.out) (cz3 (blk_below KB.out BZ.out))) (fun hHeld => ?_);clear hK K;refine norm_ (a':=?_) ?_ ?_;rotate_left;{show Act.put _ (some 6) _ = _;go_frame;(try simp only [i64_w,i32_w]);rfl}
                refine oneB 4 32 287 fun K hK => ?_
                refine goesS Tryz.func6 #[.agg #[.int .i64 x1,.int .i64 x2,.slice AT lX.length cT],.agg #[.int .i64 y1,.int .i64 y2,.slice AU lY.length cU]] ?_;with_reducible refine (spec_PutUnit.calls k x1 x2 _ _ lX y1 y2 _ _ lY r1 r2 lW g4 _ HT.out.2 HT.out.1 HU.out.2 HU.out.1 hV).mono ?_;rintro e w43 ⟨vW,rfl,hS,hb⟩;refine ⟨_,rfl,?_⟩;have hle_:=below_size (fZ BA.out BZ.out);have hlt_:=blk_lt Kgw0.out;replace BZ:=aS (fZ BZ.out hb);replace HT:=aS (And.intro HT.out.1 (Kd.C_below HT.out.2 hb));replace HU:=aS (And.intro HU.out.1 (Kd.C_below HU.out.2 hb));replace Kgw0:=aS (blk_below Kgw0.out hb);obtain ⟨AW,cW,rfl⟩:=Kd.S_slice hS;have RW:=aS (fS_low (fS_mono (fS_win hS) (fun k_ hk_ => (Nat.ne_of_gt (Nat.lt_of_lt_of_le hlt_ hk_.2.1) : k_ ≠ gw0))) hle_);clear hS hb hle_ hlt_;refine hK.out _ _ (czc3 (blk_below KA.out BZ.out) (cz3 (blk_below KB.out BZ.out))) (fun hHeld => ?_);clear hK K;refine norm_ (a':=?_) ?_ ?_;rotate_left;{show Act.put _ (some 32) _ = _;go_frame;(try simp only [i64_w,i32_w]);rfl}
                refine pB 5 27 319 ?_
                refine pB 6 33 383 ?_
                refine pB 7 34 511 ?_
                exact norm_ (by simp only [putAll,Act.put,List.setIfInBounds_toArray,List.set_cons_zero,List.set_cons_succ]) (hCont (AW,cW,AT,cT,AU,cU,gw0) _ ⟨hHeld,BZ.out,Kgw0.out,RW.out,Ggw0.out⟩)
            · refine box_step ?hg (N:=6) ?hd (cs:=#[.int .i64 0,.int .i64 0,.slice none 0 0]) (t:=32) ?hr ?_;(case hd => rfl);(case hg => rfl);(case hr => first | (go_simp;done) | (go_simp;rfl));intro gw0 hg_ w41 hbx hb;have Ggw0:=aS (by rw [hg_];exact BZ.out.size : w5.heap.size ≤ gw0);replace BZ:=aS (fZ BZ.out hb);replace HT:=aS (And.intro HT.out.1 (Kd.C_below HT.out.2 hb));have Kgw0:=aS hbx;clear hg_ hb hbx;refine hK.out _ _ (czc3 (blk_below KA.out BZ.out) (cz3 (blk_below KB.out BZ.out))) (fun hHeld => ?_);clear hK K;refine norm_ (a':=?_) ?_ ?_;rotate_left;{show Act.put _ (some 6) _ = _;go_frame;(try simp only [i64_w,i32_w]);rfl}
              refine oneB 3 31 271 fun K hK => ?_
              refine goesS Tryz.func8 #[.agg #[.int .i64 a1_0,.int .i64 a1_1,.slice A1_2 l1_2.length c1_2]] ?_;with_reducible refine (laws_toUnit.calls k a1_0 a1_1 _ _ l1_2 y1 y2 lY _ ?s1 hc1_2 hY).mono ?_;(case s1 => exact Kd.C_below hr1_2 (fZ BA.out BZ.out));rintro e w42 ⟨vU,rfl,hS,hb⟩;refine ⟨_,rfl,?_⟩;replace BZ:=aS (fZ BZ.out hb);replace HT:=aS (And.intro HT.out.1 (Kd.C_below HT.out.2 hb));replace Kgw0:=aS (blk_below Kgw0.out hb);obtain ⟨AU,cU,rfl⟩:=Kd.R_slice hS;have HU:=aS (Kd.R_reads' hS).2;clear hS hb;refine hK.out _ _ (czc3 (blk_below KA.out BZ.out) (cz3 (blk_below KB.out BZ.out))) (fun hHeld => ?_);clear hK K;refine norm_ (a':=?_) ?_ ?_;rotate_left;{show Act.put _ (some 31) _ = _;go_frame;(try simp only [i64_w,i32_w]);rfl}
              refine oneB 4 32 287 fun K hK => ?_
              refine goesS Tryz.func6 #[.agg #[.int .i64 x1,.int .i64 x2,.slice AT lX.length cT],.agg #[.int .i64 y1,.int .i64 y2,.slice AU lY.length cU]] ?_;with_reducible refine (spec_PutUnit.calls k x1 x2 _ _ lX y1 y2 _ _ lY r1 r2 lW g4 _ HT.out.2 HT.out.1 HU.out.2 HU.out.1 hV).mono ?_;rintro e w43 ⟨vW,rfl,hS,hb⟩;refine ⟨_,rfl,?_⟩;have hle_:=below_size (fZ BA.out BZ.out);have hlt_:=blk_lt Kgw0.out;replace BZ:=aS (fZ BZ.out hb);replace HT:=aS (And.intro HT.out.1 (Kd.C_below HT.out.2 hb));replace HU:=aS (And.intro HU.out.1 (Kd.C_below HU.out.2 hb));replace Kgw0:=aS (blk_below Kgw0.out hb);obtain ⟨AW,cW,rfl⟩:=Kd.S_slice hS;have RW:=aS (fS_low (fS_mono (fS_win hS) (fun k_ hk_ => (Nat.ne_of_gt (Nat.lt_of_lt_of_le hlt_ hk_.2.1) : k_ ≠ gw0))) hle_);clear hS hb hle_ hlt_;refine hK.out _ _ (czc3 (blk_below KA.out BZ.out) (cz3 (blk_below KB.out BZ.out))) (fun hHeld => ?_);clear hK K;refine norm_ (a':=?_) ?_ ?_;rotate_left;{show Act.put _ (some 32) _ = _;go_frame;(try simp only [i64_w,i32_w]);rfl}
              refine pB 5 27 319 ?_
              refine pB 6 33 383 ?_
              refine pB 7 34 511 ?_
              exact norm_ (by simp only [putAll,Act.put,List.setIfInBounds_toArray,List.set_cons_zero,List.set_cons_succ]) (hCont (AW,cW,AT,cT,AU,cU,gw0) _ ⟨hHeld,BZ.out,Kgw0.out,RW.out,Ggw0.out⟩)
          · refine box_step ?hg (N:=6) ?hd (cs:=#[.int .i64 0,.int .i64 0,.slice none 0 0]) (t:=32) ?hr ?_;(case hd => rfl);(case hg => rfl);(case hr => first | (go_simp;done) | (go_simp;rfl));intro gw0 hg_ w40 hbx hb;have Ggw0:=aS (by rw [hg_];exact BZ.out.size : w5.heap.size ≤ gw0);replace BZ:=aS (fZ BZ.out hb);have Kgw0:=aS hbx;clear hg_ hb hbx;refine hK.out _ _ (czc3 (blk_below KA.out BZ.out) (cz3 (blk_below KB.out BZ.out))) (fun hHeld => ?_);clear hK K;refine norm_ (a':=?_) ?_ ?_;rotate_left;{show Act.put _ (some 6) _ = _;go_frame;(try simp only [i64_w,i32_w]);rfl}
            refine oneB 1 29 263 fun K hK => ?_
            refine goesS Tryz.func7 #[.agg #[.int .i64 a0_0,.int .i64 a0_1,.slice A0_2 l0_2.length c0_2]] ?_;with_reducible refine (laws_toStore.calls k a0_0 a0_1 _ _ l0_2 x1 x2 lX _ ?s1 hc0_2 hX).mono ?_;(case s1 => exact Kd.C_below hr0_2 (fZ BA.out BZ.out));rintro e w41 ⟨vT,rfl,hS,hb⟩;refine ⟨_,rfl,?_⟩;replace BZ:=aS (fZ BZ.out hb);replace Kgw0:=aS (blk_below Kgw0.out hb);obtain ⟨AT,cT,rfl⟩:=Kd.S_slice hS;have HT:=aS (Kd.S_reads' hS).2;clear hS hb;refine hK.out _ _ (czc3 (blk_below KA.out BZ.out) (cz3 (blk_below KB.out BZ.out))) (fun hHeld => ?_);clear hK K;refine norm_ (a':=?_) ?_ ?_;rotate_left;{show Act.put _ (some 29) _ = _;go_frame;(try simp only [i64_w,i32_w]);rfl}
            refine oneB 3 31 271 fun K hK => ?_
            refine goesS Tryz.func8 #[.agg #[.int .i64 a1_0,.int .i64 a1_1,.slice A1_2 l1_2.length c1_2]] ?_;with_reducible refine (laws_toUnit.calls k a1_0 a1_1 _ _ l1_2 y1 y2 lY _ ?s1 hc1_2 hY).mono ?_;(case s1 => exact Kd.C_below hr1_2 (fZ BA.out BZ.out));rintro e w42 ⟨vU,rfl,hS,hb⟩;refine ⟨_,rfl,?_⟩;replace BZ:=aS (fZ BZ.out hb);replace HT:=aS (And.intro HT.out.1 (Kd.C_below HT.out.2 hb));replace Kgw0:=aS (blk_below Kgw0.out hb);obtain ⟨AU,cU,rfl⟩:=Kd.R_slice hS;have HU:=aS (Kd.R_reads' hS).2;clear hS hb;refine hK.out _ _ (czc3 (blk_below KA.out BZ.out) (cz3 (blk_below KB.out BZ.out))) (fun hHeld => ?_);clear hK K;refine norm_ (a':=?_) ?_ ?_;rotate_left;{show Act.put _ (some 31) _ = _;go_frame;(try simp only [i64_w,i32_w]);rfl}
            refine oneB 4 32 287 fun K hK => ?_
            refine goesS Tryz.func6 #[.agg #[.int .i64 x1,.int .i64 x2,.slice AT lX.length cT],.agg #[.int .i64 y1,.int .i64 y2,.slice AU lY.length cU]] ?_;with_reducible refine (spec_PutUnit.calls k x1 x2 _ _ lX y1 y2 _ _ lY r1 r2 lW g4 _ HT.out.2 HT.out.1 HU.out.2 HU.out.1 hV).mono ?_;rintro e w43 ⟨vW,rfl,hS,hb⟩;refine ⟨_,rfl,?_⟩;have hle_:=below_size (fZ BA.out BZ.out);have hlt_:=blk_lt Kgw0.out;replace BZ:=aS (fZ BZ.out hb);replace HT:=aS (And.intro HT.out.1 (Kd.C_below HT.out.2 hb));replace HU:=aS (And.intro HU.out.1 (Kd.C_below HU.out.2 hb));replace Kgw0:=aS (blk_below Kgw0.out hb);obtain ⟨AW,cW,rfl⟩:=Kd.S_slice hS;have RW:=aS (fS_low (fS_mono (fS_win hS) (fun k_ hk_ => (Nat.ne_of_gt (Nat.lt_of_lt_of_le hlt_ hk_.2.1) : k_ ≠ gw0))) hle_);clear hS hb hle_ hlt_;refine hK.out _ _ (czc3 (blk_below KA.out BZ.out) (cz3 (blk_below KB.out BZ.out))) (fun hHeld => ?_);clear hK K;refine norm_ (a':=?_) ?_ ?_;rotate_left;{show Act.put _ (some 32) _ = _;go_frame;(try simp only [i64_w,i32_w]);rfl}
            refine pB 5 27 319 ?_
            refine pB 6 33 383 ?_
            refine pB 7 34 511 ?_
            exact norm_ (by simp only [putAll,Act.put,List.setIfInBounds_toArray,List.set_cons_zero,List.set_cons_succ]) (hCont (AW,cW,AT,cT,AU,cU,gw0) _ ⟨hHeld,BZ.out,Kgw0.out,RW.out,Ggw0.out⟩)
        rintro ⟨AW,cW,AT,cT,AU,cU,gw0⟩ w70 ⟨hS_,h0_,h1_,h2_,h3_⟩
        replace BZ:=aS (show Below w5.heap.size w5 w70 from h0_)
        have Kgw0:=aS (show w70.heap[gw0]? = some (.cells #[.int .i64 0,.int .i64 0,.slice none 0 0] 32 (0,0)) from h1_)
        have RW:=aS (show rS w w70 (fun k_ => k_ ≠ gw0) AW cW lW from h2_)
        have Ggw0:=aS (show w5.heap.size ≤ gw0 from h3_)
        have hHeld : w70.cell? ⟨ga,0,none⟩ = some (.int .i64 a0_0) ∧ w70.cell? ⟨ga,1,none⟩ = some (.int .i64 a0_1) ∧ w70.cell? ⟨ga,2,none⟩ = some (.slice A0_2 l0_2.length c0_2) ∧ w70.cell? ⟨gb,0,none⟩ = some (.int .i64 a1_0) ∧ w70.cell? ⟨gb,1,none⟩ = some (.int .i64 a1_1) ∧ w70.cell? ⟨gb,2,none⟩ = some (.slice A1_2 l1_2.length c1_2):=hS_
        clear h0_ h1_ h2_ h3_ hS_
        refine norm_ (a':=?_) ?_ ?_
        rotate_left
        · simp only [putAll,Act.put,List.setIfInBounds_toArray,List.set_cons_zero,List.set_cons_succ];rfl
        obtain ⟨lt_gagw0,A_gw0ga,A_gagw0,n_gw0ga,n_gagw0⟩:=fNe rfl (Nat.lt_of_lt_of_le (blk_lt KA.out) Ggw0.out)
        obtain ⟨lt_gbgw0,A_gw0gb,A_gbgw0,n_gw0gb,n_gbgw0⟩:=fNe rfl (Nat.lt_of_lt_of_le (blk_lt KB.out) Ggw0.out)
        refine zz3 Kgw0.out ?_;intros
        refine one_ (i:=9) (N:=none) (bA 11 1023) rfl rfl (by kernel_rfl) (by decide) (fun K hK => ?_)
        refine skip_ (w1:=?_) (by rfl) rfl ?_ ?_
        rotate_left
        · go_simp;rfl
        refine hK.out _ _ ⟨(oK hHeld.1 A_gagw0.out),(oK hHeld.2.1 A_gagw0.out),(oK hHeld.2.2.1 A_gagw0.out),(oK hHeld.2.2.2.1 A_gbgw0.out),(oK hHeld.2.2.2.2.1 A_gbgw0.out),(oK hHeld.2.2.2.2.2 A_gbgw0.out)⟩ (fun hHeld => ?_)
        clear hK K
        have Lgw0:=aS (Nat.le_trans (below_size BA.out) Ggw0.out)
        replace BA:=aS (show Below w.heap.size w (((w70.setCell ⟨gw0,0,none⟩ (.int .i64 r1)).setCell ⟨gw0,1,none⟩ (.int .i64 r2)).setCell ⟨gw0,2,none⟩ (.slice AW lW.length cW)) from by repeat (first | exact fZ BA.out BZ.out | refine below_set ?_ Lgw0.out))
        replace KA:=aS (show bB (((w70.setCell ⟨gw0,0,none⟩ (.int .i64 r1)).setCell ⟨gw0,1,none⟩ (.int .i64 r2)).setCell ⟨gw0,2,none⟩ (.slice AW lW.length cW)) 24 ga a0_0 a0_1 A0_2 l0_2.length c0_2 from oP (blk_below KA.out BZ.out))
        replace KB:=aS (show bB (((w70.setCell ⟨gw0,0,none⟩ (.int .i64 r1)).setCell ⟨gw0,1,none⟩ (.int .i64 r2)).setCell ⟨gw0,2,none⟩ (.slice AW lW.length cW)) 27 gb a1_0 a1_1 A1_2 l1_2.length c1_2 from oP (blk_below KB.out BZ.out))
        replace Kgw0:=aS (show bB (((w70.setCell ⟨gw0,0,none⟩ (.int .i64 r1)).setCell ⟨gw0,1,none⟩ (.int .i64 r2)).setCell ⟨gw0,2,none⟩ (.slice AW lW.length cW)) 32 gw0 r1 r2 AW lW.length cW from oP Kgw0.out)
        replace RW:=aS (show rS w (((w70.setCell ⟨gw0,0,none⟩ (.int .i64 r1)).setCell ⟨gw0,1,none⟩ (.int .i64 r2)).setCell ⟨gw0,2,none⟩ (.slice AW lW.length cW)) (fun k_ => k_ ≠ gw0) AW cW lW from fSp (g:=gw0) (g':=gw0) RW.out (fun k_ hk_ => ⟨hk_,hk_⟩))
        clear BZ
        generalize ((w70.setCell ⟨gw0,0,none⟩ (.int .i64 r1)).setCell ⟨gw0,1,none⟩ (.int .i64 r2)).setCell ⟨gw0,2,none⟩ (.slice AW lW.length cW) = w7 at BA KA KB Kgw0 RW hHeld ⊢
        refine pB 10 7 2047 ?_
        refine done_ (by kernel_rfl) ?_
        clear hHeld
        have BZ:=aS (Below.refl w7.heap.size w7)
        replace RW:=aS (fS_mono (fS_win RW.out) (fun k_ hk_ => (⟨hk_.1,hk_.2.2⟩ : k_ ≠ gw0 ∧ k_ < w7.heap.size)))
        refine zz3 KA.out ?_;intros
        have Lw7:=aS (blk_lt Kgw0.out)
        go_upto_region 10 with (first | ((with_reducible refine gD 8 rfl ?_);go_loud (refine bY #[.int .i64 0,.int .i64 0,.slice none 0 0] 32 ?_;intro gx hg_ w9 hbx hb;have Lgx:=aS (Nat.le_trans (below_size (fZ BA.out BZ.out)) (Nat.le_of_eq hg_.symm));obtain ⟨lt_gagx,A_gxga,A_gagx,n_gxga,n_gagx⟩:=fNe hg_ (blk_lt (blk_below KA.out BZ.out));obtain ⟨lt_gbgx,A_gxgb,A_gbgx,n_gxgb,n_gbgx⟩:=fNe hg_ (blk_lt (blk_below KB.out BZ.out));obtain ⟨lt_gw0gx,A_gxgw0,A_gw0gx,n_gxgw0,n_gw0gx⟩:=fNe hg_ (blk_lt (blk_below Kgw0.out BZ.out));rw [← hg_] at RX LD;replace BZ:=aS (fZ BZ.out hb);replace RX:=aS (fSb RX.out hb);have Kgx:=aS hbx;clear hg_ hb hbx;skip;refine zz3 Kgx.out ?_;intros)) | (go_at_call 7;go_loud ((with_reducible refine (laws_toStore.calls k a0_0 a0_1 _ _ l0_2 x1 x2 lX _ ?s1 hc0_2 hX).mono ?_);(case s1 => exact Kd.C_below hr0_2 (fZ BA.out BZ.out));rintro e w8 ⟨vX,rfl,hT3,hb⟩;replace BZ:=aS (fZ BZ.out hb);have RX:=aS (fS_low (fS_mono (fS_win hT3) (fun k_ hk_ => (⟨hk_.2.1,hk_.2.2⟩ : w7.heap.size ≤ k_ ∧ k_ < w8.heap.size))) (below_size BA.out));have LD:=aS hb.size;obtain ⟨AX,cX,rfl⟩:=Kd.S_slice hT3;clear hT3;clear hb;skip)))
        have Lgx7:=aS (Nat.lt_of_lt_of_le Lw7.out LD.out)
        generalize w7.heap.size = nD at RW RX LD Lw7
        refine fW (fun W => Aside0 (Below w.heap.size w W) ∧ Aside0 (bB W 24 ga a0_0 a0_1 A0_2 l0_2.length c0_2) ∧ Aside0 (bB W 27 gb a1_0 a1_1 A1_2 l1_2.length c1_2) ∧ Aside0 (bB W 32 gw0 r1 r2 AW lW.length cW) ∧ Aside0 (bB W 32 gx x1 x2 AX lX.length cX) ∧ Aside0 (rS w W (fun k_ => k_ ≠ gw0 ∧ k_ < nD) AW cW lW) ∧ Aside0 (rS w W (fun k_ => nD ≤ k_ ∧ k_ < gx) AX cX lX)) ?_ ?_
        · exact ⟨⟨by (repeat (refine below_set ?_ (by first | exact Lgx.out)));exact (fZ BA.out BZ.out)⟩,⟨oP (blk_below KA.out BZ.out)⟩,⟨oP (blk_below KB.out BZ.out)⟩,⟨oP (blk_below Kgw0.out BZ.out)⟩,⟨oP Kgx.out⟩,⟨fSp (g:=gx) (g':=gx) (fSb RW.out BZ.out) (fun k_ hk_ => by have:=hk_;have:=LD.out;omega)⟩,⟨fSp (g:=gx) (g':=gx) RX.out (fun k_ hk_ => by have:=hk_;omega)⟩⟩
        clear BA KA KB Kgw0 Kgx RW RX BZ
        intro w10 ⟨BA,KA,KB,Kgw0,Kgx,RW,RX⟩
        have BZ:=aS (Below.refl w10.heap.size w10)
        have Lw10:=aS (blk_lt Kgx.out)
        refine zz3 KB.out ?_;intros
        go_upto_region 11 with (first | ((with_reducible refine gD 9 rfl ?_);go_loud (refine bY #[.int .i64 0,.int .i64 0,.slice none 0 0] 38 ?_;intro gy hg_ w12 hbx hb;have Lgy:=aS (Nat.le_trans (below_size (fZ BA.out BZ.out)) (Nat.le_of_eq hg_.symm));obtain ⟨lt_gagy,A_gyga,A_gagy,n_gyga,n_gagy⟩:=fNe hg_ (blk_lt (blk_below KA.out BZ.out));obtain ⟨lt_gbgy,A_gygb,A_gbgy,n_gygb,n_gbgy⟩:=fNe hg_ (blk_lt (blk_below KB.out BZ.out));obtain ⟨lt_gw0gy,A_gygw0,A_gw0gy,n_gygw0,n_gw0gy⟩:=fNe hg_ (blk_lt (blk_below Kgw0.out BZ.out));obtain ⟨lt_gxgy,A_gygx,A_gxgy,n_gygx,n_gxgy⟩:=fNe hg_ (blk_lt (blk_below Kgx.out BZ.out));rw [← hg_] at RY LE;replace BZ:=aS (fZ BZ.out hb);replace RY:=aS (fRb RY.out hb);have Kgy:=aS hbx;clear hg_ hb hbx;skip;refine zz3 Kgy.out ?_;intros)) | (go_at_call 8;go_loud ((with_reducible refine (laws_toUnit.calls k a1_0 a1_1 _ _ l1_2 y1 y2 lY _ ?s1 hc1_2 hY).mono ?_);(case s1 => exact Kd.C_below hr1_2 (fZ BA.out BZ.out));rintro e w11 ⟨vY,rfl,hT3,hb⟩;replace BZ:=aS (fZ BZ.out hb);have RY:=aS (Kd.R_lower (Kd.R_mono (fR_win hT3) (fun k_ hk_ => (⟨hk_.2.1,hk_.2.2⟩ : w10.heap.size ≤ k_ ∧ k_ < w11.heap.size))) (below_size BA.out));have LE:=aS hb.size;obtain ⟨AY,cY,rfl⟩:=Kd.R_slice hT3;clear hT3;clear hb;skip)))
        generalize w10.heap.size = nE at RY LE Lw10
        refine fW (fun W => Aside0 (Below w.heap.size w W) ∧ Aside0 (bB W 24 ga a0_0 a0_1 A0_2 l0_2.length c0_2) ∧ Aside0 (bB W 27 gb a1_0 a1_1 A1_2 l1_2.length c1_2) ∧ Aside0 (bB W 32 gw0 r1 r2 AW lW.length cW) ∧ Aside0 (bB W 32 gx x1 x2 AX lX.length cX) ∧ Aside0 (bB W 38 gy y1 y2 AY lY.length cY) ∧ Aside0 (rS w W (fun k_ => k_ ≠ gw0 ∧ k_ < nD) AW cW lW) ∧ Aside0 (rS w W (fun k_ => nD ≤ k_ ∧ k_ < gx) AX cX lX) ∧ Aside0 (rR w W (fun k_ => nE ≤ k_ ∧ k_ < gy) AY cY lY)) ?_ ?_
        · exact ⟨⟨by (repeat (refine below_set ?_ (by first | exact Lgy.out)));exact (fZ BA.out BZ.out)⟩,⟨oP (blk_below KA.out BZ.out)⟩,⟨oP (blk_below KB.out BZ.out)⟩,⟨oP (blk_below Kgw0.out BZ.out)⟩,⟨oP (blk_below Kgx.out BZ.out)⟩,⟨oP Kgy.out⟩,⟨fSp (g:=gy) (g':=gy) (fSb RW.out BZ.out) (fun k_ hk_ => by have:=hk_;have:=LD.out;have:=Lw10.out;have:=LE.out;omega)⟩,⟨fSp (g:=gy) (g':=gy) (fSb RX.out BZ.out) (fun k_ hk_ => by have:=hk_;have:=LD.out;have:=Lw10.out;have:=LE.out;omega)⟩,⟨fRp (g:=gy) (g':=gy) RY.out (fun k_ hk_ => by have:=hk_;omega)⟩⟩
        clear BA KA KB Kgw0 Kgx Kgy RW RX RY BZ
        intro w13 ⟨BA,KA,KB,Kgw0,Kgx,Kgy,RW,RX,RY⟩
        have BZ:=aS (Below.refl w13.heap.size w13)
        have Lw13:=aS (blk_lt Kgy.out)
        refine zz3 Kgx.out ?_;intros;refine zz3 Kgy.out ?_;intros
        go_upto_region 12 with (first | ((with_reducible refine gD 10 rfl ?_);go_loud (refine bY #[.int .i64 0,.int .i64 0,.slice none 0 0] 32 ?_;intro gg0 hg_ w15 hbx hb;have Lgg0:=aS (Nat.le_trans (below_size (fZ BA.out BZ.out)) (Nat.le_of_eq hg_.symm));obtain ⟨lt_gagg0,A_gg0ga,A_gagg0,n_gg0ga,n_gagg0⟩:=fNe hg_ (blk_lt (blk_below KA.out BZ.out));obtain ⟨lt_gbgg0,A_gg0gb,A_gbgg0,n_gg0gb,n_gbgg0⟩:=fNe hg_ (blk_lt (blk_below KB.out BZ.out));obtain ⟨lt_gw0gg0,A_gg0gw0,A_gw0gg0,n_gg0gw0,n_gw0gg0⟩:=fNe hg_ (blk_lt (blk_below Kgw0.out BZ.out));obtain ⟨lt_gxgg0,A_gg0gx,A_gxgg0,n_gg0gx,n_gxgg0⟩:=fNe hg_ (blk_lt (blk_below Kgx.out BZ.out));obtain ⟨lt_gygg0,A_gg0gy,A_gygg0,n_gg0gy,n_gygg0⟩:=fNe hg_ (blk_lt (blk_below Kgy.out BZ.out));rw [← hg_] at RG LF;replace BZ:=aS (fZ BZ.out hb);replace RG:=aS (fSb RG.out hb);have Kgg0:=aS hbx;clear hg_ hb hbx;skip;refine zz3 Kgg0.out ?_;intros)) | (go_at_call 9;go_loud ((with_reducible refine (impl_PutUnit.calls k x1 x2 _ _ lX y1 y2 _ _ lY g1 g2 lG g4 _ (Kd.S_reads' (fSb RX.out BZ.out)).2.2 (Kd.S_reads' (fSb RX.out BZ.out)).2.1 (Kd.R_reads' (fRb RY.out BZ.out)).2.2 (Kd.R_reads' (fRb RY.out BZ.out)).2.1 hG).mono ?_);rintro e w14 ⟨vG,rfl,hG4,hb⟩;replace BZ:=aS (fZ BZ.out hb);have RG:=aS (fS_low (fS_mono (fS_win hG4) (fun k_ hk_ => (⟨hk_.2.1,hk_.2.2⟩ : w13.heap.size ≤ k_ ∧ k_ < w14.heap.size))) (below_size BA.out));have LF:=aS hb.size;obtain ⟨AG,cG,rfl⟩:=Kd.S_slice hG4;clear hG4;clear hb;skip)))
        generalize w13.heap.size = nF at RG LF Lw13
        refine fW (fun W => Aside0 (Below w.heap.size w W) ∧ Aside0 (bB W 24 ga a0_0 a0_1 A0_2 l0_2.length c0_2) ∧ Aside0 (bB W 27 gb a1_0 a1_1 A1_2 l1_2.length c1_2) ∧ Aside0 (bB W 32 gw0 r1 r2 AW lW.length cW) ∧ Aside0 (bB W 32 gx x1 x2 AX lX.length cX) ∧ Aside0 (bB W 38 gy y1 y2 AY lY.length cY) ∧ Aside0 (bB W 32 gg0 g1 g2 AG lG.length cG) ∧ Aside0 (rS w W (fun k_ => k_ ≠ gw0 ∧ k_ < nD) AW cW lW) ∧ Aside0 (rS w W (fun k_ => nD ≤ k_ ∧ k_ < gx) AX cX lX) ∧ Aside0 (rR w W (fun k_ => nE ≤ k_ ∧ k_ < gy) AY cY lY) ∧ Aside0 (rS w W (fun k_ => nF ≤ k_ ∧ k_ < gg0) AG cG lG)) ?_ ?_
        · exact ⟨⟨by (repeat (refine below_set ?_ (by first | exact Lgg0.out)));exact (fZ BA.out BZ.out)⟩,⟨oP (blk_below KA.out BZ.out)⟩,⟨oP (blk_below KB.out BZ.out)⟩,⟨oP (blk_below Kgw0.out BZ.out)⟩,⟨oP (blk_below Kgx.out BZ.out)⟩,⟨oP (blk_below Kgy.out BZ.out)⟩,⟨oP Kgg0.out⟩,⟨fSp (g:=gg0) (g':=gg0) (fSb RW.out BZ.out) (fun k_ hk_ => by have:=hk_;have:=LD.out;have:=Lw10.out;have:=LE.out;have:=Lw13.out;have:=LF.out;omega)⟩,⟨fSp (g:=gg0) (g':=gg0) (fSb RX.out BZ.out) (fun k_ hk_ => by have:=hk_;have:=LD.out;have:=Lw10.out;have:=LE.out;have:=Lw13.out;have:=LF.out;omega)⟩,⟨fRp (g:=gg0) (g':=gg0) (fRb RY.out BZ.out) (fun k_ hk_ => by have:=hk_;have:=LD.out;have:=Lw10.out;have:=LE.out;have:=Lw13.out;have:=LF.out;omega)⟩,⟨fSp (g:=gg0) (g':=gg0) RG.out (fun k_ hk_ => by have:=hk_;have:=LD.out;have:=Lw10.out;have:=LE.out;have:=Lw13.out;have:=LF.out;omega)⟩⟩
        clear BA KA KB Kgw0 Kgx Kgy Kgg0 RW RX RY RG BZ
        intro w16 ⟨BA,KA,KB,Kgw0,Kgx,Kgy,Kgg0,RW,RX,RY,RG⟩
        have BZ:=aS (Below.refl w16.heap.size w16)
        refine zz3 Kgg0.out ?_;intros;refine zz3 Kgw0.out ?_;intros
        go_upto_region 14 with (first | (go_at_call 10;go_loud ((with_reducible refine (laws_eqStore.calls k g1 g2 _ _ lG r1 r2 _ _ lW true _ (Kd.S_reads' (fSb RG.out BZ.out)).2.2 (Kd.S_reads' (fSb RG.out BZ.out)).2.1 (Kd.S_reads' (fSb RW.out BZ.out)).2.2 (Kd.S_reads' (fSb RW.out BZ.out)).2.1 hb1).mono ?_);rintro e w17 ⟨rfl,hb⟩;replace BZ:=aS (fZ BZ.out hb);clear hb;skip)))
        replace BZ:=aS (below_drew1 BZ.out)
        have Kgx':=aS (blk_below Kgx.out BZ.out)
        have KA':=aS (blk_below KA.out BZ.out)
        refine start_ (n:=5) (S:=fun w' => w'.cell? ⟨gx,0,none⟩ = some (.int .i64 x1) ∧ w'.cell? ⟨gx,1,none⟩ = some (.int .i64 x2) ∧ w'.cell? ⟨gx,2,none⟩ = some (.slice AX lX.length cX) ∧ w'.cell? ⟨ga,0,none⟩ = some (.int .i64 a0_0) ∧ w'.cell? ⟨ga,1,none⟩ = some (.int .i64 a0_1) ∧ w'.cell? ⟨ga,2,none⟩ = some (.slice A0_2 l0_2.length c0_2)) (ds:=[]) (bA 5 0) (by kernel_rfl) rfl rfl ⟨xc Kgx',xc Kgx',xc Kgx',xc KA',xc KA',xc KA'⟩ (fun hHeld => ?_)
        clear Kgx' KA'
        generalize w17.drew = w18 at BZ hHeld ⊢
        refine tB 0 54 1 ?_
        refine tB 1 55 3 ?_
        refine oneB 2 56 7 fun K hK => ?_
        refine goesS Tryz.func7 #[.agg #[.int .i64 a0_0,.int .i64 a0_1,.slice A0_2 l0_2.length c0_2]] ?_
        with_reducible refine (laws_toStore.calls k a0_0 a0_1 _ _ l0_2 x1 x2 lX _ ?s1 hc0_2 hX).mono ?_
        case s1 => exact Kd.C_below hr0_2 (fZ BA.out BZ.out)
        rintro e w18' ⟨vY,rfl,hT3,hb⟩
        refine ⟨_,rfl,?_⟩
        replace BZ:=aS (fZ BZ.out hb)
        have RQ:=aS hT3
        obtain ⟨AQ,cQ,rfl⟩:=Kd.S_slice hT3
        clear hT3 hb
        refine hK.out _ _ (czc3 (blk_below Kgx.out BZ.out) (cz3 (blk_below KA.out BZ.out))) (fun hHeld => ?_)
        clear hK K
        refine norm_ (a':=?_) ?_ ?_
        rotate_left
        · show Act.put _ (some 56) _ = _;go_frame;(try simp only [i64_w,i32_w]);rfl
        refine oneB 3 57 15 fun K hK => ?_
        refine goesS Tryz.func10 #[.agg #[.int .i64 x1,.int .i64 x2,.slice AX lX.length cX],.agg #[.int .i64 x1,.int .i64 x2,.slice AQ lX.length cQ]] ?_
        with_reducible refine (laws_eqStore.calls k x1 x2 _ _ lX x1 x2 _ _ lX true _ (Kd.S_reads' (fSb RX.out BZ.out)).2.2 (Kd.S_reads' (fSb RX.out BZ.out)).2.1 (Kd.S_reads' RQ.out).2.2 (Kd.S_reads' RQ.out).2.1 hb3).mono ?_
        rintro e w18'' ⟨rfl,hb⟩
        refine ⟨_,rfl,?_⟩
        replace BZ:=aS (fZ BZ.out hb)
        clear hb RQ
        refine hK.out _ _ (czc3 (blk_below Kgx.out BZ.out) (cz3 (blk_below KA.out BZ.out))) (fun hHeld => ?_)
        clear hK K
        refine norm_ (a':=?_) ?_ ?_
        rotate_left
        · show Act.put _ (some 57) _ = _;go_frame;(try simp only [i64_w,i32_w]);rfl
        refine pB 4 58 31 ?_
        refine done_ (by kernel_rfl) ?_
        clear hHeld
        go_upto_region 16 with (fail)
        replace BZ:=aS (below_drew1 BZ.out)
        have Kgy':=aS (blk_below Kgy.out BZ.out)
        have KB':=aS (blk_below KB.out BZ.out)
        refine start_ (n:=5) (S:=fun w' => w'.cell? ⟨gy,0,none⟩ = some (.int .i64 y1) ∧ w'.cell? ⟨gy,1,none⟩ = some (.int .i64 y2) ∧ w'.cell? ⟨gy,2,none⟩ = some (.slice AY lY.length cY) ∧ w'.cell? ⟨gb,0,none⟩ = some (.int .i64 a1_0) ∧ w'.cell? ⟨gb,1,none⟩ = some (.int .i64 a1_1) ∧ w'.cell? ⟨gb,2,none⟩ = some (.slice A1_2 l1_2.length c1_2)) (ds:=[]) (bA 5 0) (by kernel_rfl) rfl rfl ⟨xc Kgy',xc Kgy',xc Kgy',xc KB',xc KB',xc KB'⟩ (fun hHeld => ?_)
        clear Kgy' KB'
        generalize w18''.drew = w19 at BZ hHeld ⊢
        refine tB 0 59 1 ?_
        refine tB 1 60 3 ?_
        refine oneB 2 61 7 fun K hK => ?_
        refine goesS Tryz.func8 #[.agg #[.int .i64 a1_0,.int .i64 a1_1,.slice A1_2 l1_2.length c1_2]] ?_
        with_reducible refine (laws_toUnit.calls k a1_0 a1_1 _ _ l1_2 y1 y2 lY _ ?s1 hc1_2 hY).mono ?_
        case s1 => exact Kd.C_below hr1_2 (fZ BA.out BZ.out)
        rintro e w19' ⟨vY,rfl,hT3,hb⟩
        refine ⟨_,rfl,?_⟩
        replace BZ:=aS (fZ BZ.out hb)
        have RQ:=aS hT3
        obtain ⟨AQ,cQ,rfl⟩:=Kd.R_slice hT3
        clear hT3 hb
        refine hK.out _ _ (czc3 (blk_below Kgy.out BZ.out) (cz3 (blk_below KB.out BZ.out))) (fun hHeld => ?_)
        clear hK K
        refine norm_ (a':=?_) ?_ ?_
        rotate_left
        · show Act.put _ (some 61) _ = _;go_frame;(try simp only [i64_w,i32_w]);rfl
        refine oneB 3 62 15 fun K hK => ?_
        refine goesS Tryz.func11 #[.agg #[.int .i64 y1,.int .i64 y2,.slice AY lY.length cY],.agg #[.int .i64 y1,.int .i64 y2,.slice AQ lY.length cQ]] ?_
        with_reducible refine (laws_eqUnit.calls k y1 y2 _ _ lY y1 y2 _ _ lY true _ (Kd.R_reads' (fRb RY.out BZ.out)).2.2 (Kd.R_reads' (fRb RY.out BZ.out)).2.1 (Kd.R_reads' RQ.out).2.2 (Kd.R_reads' RQ.out).2.1 hb4).mono ?_
        rintro e w19'' ⟨rfl,hb⟩
        refine ⟨_,rfl,?_⟩
        replace BZ:=aS (fZ BZ.out hb)
        clear hb RQ
        refine hK.out _ _ (czc3 (blk_below Kgy.out BZ.out) (cz3 (blk_below KB.out BZ.out))) (fun hHeld => ?_)
        clear hK K
        refine norm_ (a':=?_) ?_ ?_
        rotate_left
        · show Act.put _ (some 62) _ = _;go_frame;(try simp only [i64_w,i32_w]);rfl
        refine pB 4 63 31 ?_
        refine done_ (by kernel_rfl) ?_
        clear hHeld
        refine zz3 (blk_below Kgx.out BZ.out) ?_;intros
        refine zz3 (blk_below Kgy.out BZ.out) ?_;intros
        have LN:=aS (And.intro lt_gagw0.out (And.intro lt_gbgw0.out (And.intro Lw7.out (And.intro LD.out (And.intro Lw10.out (And.intro LE.out (And.intro Lw13.out (And.intro LF.out lt_gagb.out))))))))
        have kK:=decide_eq_false (show ¬ L1 < 0 from fun h_ => absurd hqq.1 (by omega))
        go_upto_region 21 with (first | (go_at_call 13;go_loud ((with_reducible refine (laws_markUnit.calls k y1 y2 (fun k_ => nE ≤ k_ ∧ k_ < gy) _ lY K1 L1 L2 w _ (fZ BA.out BZ.out) (fRb RY.out BZ.out) hL).mono ?_);rintro e w21 ⟨rfl,hS,hb,hkp⟩;clear hS RY Kgy;replace BA:=aS hb;replace KA:=aS (blk_kept (blk_below KA.out BZ.out) hkp (fun h_ => by have h2_ : nE ≤ ga ∧ ga < gy:=h_;have:=LN.out;omega));replace KB:=aS (blk_kept (blk_below KB.out BZ.out) hkp (fun h_ => by have h2_ : nE ≤ gb ∧ gb < gy:=h_;have:=LN.out;omega));replace Kgw0:=aS (blk_kept (blk_below Kgw0.out BZ.out) hkp (fun h_ => by have h2_ : nE ≤ gw0 ∧ gw0 < gy:=h_;have:=LN.out;omega));replace Kgg0:=aS (blk_kept (blk_below Kgg0.out BZ.out) hkp (fun h_ => by have h2_ : nE ≤ gg0 ∧ gg0 < gy:=h_;have:=LN.out;omega));replace RW:=aS (fS_step (fSb RW.out BZ.out) (fun k_ hk_ _ hl_ => hkp.2 k_ hl_ (fun h_ => by have h1_ : k_ ≠ gw0 ∧ k_ < nD:=hk_;have h2_ : nE ≤ k_ ∧ k_ < gy:=h_;have:=LN.out;omega)));replace RG:=aS (fS_step (fSb RG.out BZ.out) (fun k_ hk_ _ hl_ => hkp.2 k_ hl_ (fun h_ => by have h1_ : nF ≤ k_ ∧ k_ < gg0:=hk_;have h2_ : nE ≤ k_ ∧ k_ < gy:=h_;have:=LN.out;omega)));replace BZ:=aS (Below.refl w21.heap.size w21);clear hb hkp;skip;refine zz3 (blk_below Kgg0.out BZ.out) ?_;intros;refine zz3 (blk_below Kgw0.out BZ.out) ?_;intros)) | (go_at_call 12;go_loud ((with_reducible refine (laws_markStore.calls k x1 x2 (fun k_ => nD ≤ k_ ∧ k_ < gx) AX cX lX 1 K1 K2 w _ (fZ BA.out BZ.out) (fSb RX.out BZ.out) hK).mono ?_);rintro e w20 ⟨rfl,hS,hb,hkp⟩;clear hS RX Kgx;replace BA:=aS hb;replace KA:=aS (blk_kept (blk_below KA.out BZ.out) hkp (fun h_ => by have h2_ : nD ≤ ga ∧ ga < gx:=h_;have:=LN.out;omega));replace KB:=aS (blk_kept (blk_below KB.out BZ.out) hkp (fun h_ => by have h2_ : nD ≤ gb ∧ gb < gx:=h_;have:=LN.out;omega));replace Kgw0:=aS (blk_kept (blk_below Kgw0.out BZ.out) hkp (fun h_ => by have h2_ : nD ≤ gw0 ∧ gw0 < gx:=h_;have:=LN.out;omega));replace Kgy:=aS (blk_kept (blk_below Kgy.out BZ.out) hkp (fun h_ => by have h2_ : nD ≤ gy ∧ gy < gx:=h_;have:=LN.out;omega));replace Kgg0:=aS (blk_kept (blk_below Kgg0.out BZ.out) hkp (fun h_ => by have h2_ : nD ≤ gg0 ∧ gg0 < gx:=h_;have:=LN.out;omega));replace RW:=aS (fS_step (fSb RW.out BZ.out) (fun k_ hk_ _ hl_ => hkp.2 k_ hl_ (fun h_ => by have h1_ : k_ ≠ gw0 ∧ k_ < nD:=hk_;have h2_ : nD ≤ k_ ∧ k_ < gx:=h_;have:=LN.out;omega)));replace RY:=aS (fR_step (fRb RY.out BZ.out) (fun k_ hk_ _ hl_ => hkp.2 k_ hl_ (fun h_ => by have h1_ : nE ≤ k_ ∧ k_ < gy:=hk_;have h2_ : nD ≤ k_ ∧ k_ < gx:=h_;have:=LN.out;omega)));replace RG:=aS (fS_step (fSb RG.out BZ.out) (fun k_ hk_ _ hl_ => hkp.2 k_ hl_ (fun h_ => by have h1_ : nF ≤ k_ ∧ k_ < gg0:=hk_;have h2_ : nD ≤ k_ ∧ k_ < gx:=h_;have:=LN.out;omega)));replace BZ:=aS (Below.refl w20.heap.size w20);clear hb hkp;skip;refine zz3 (blk_below Kgy.out BZ.out) ?_;intros)))
        go_upto_region 24 with (first | (go_at_call 10;go_loud ((with_reducible refine (laws_eqStore.calls k g1 g2 _ _ lG r1 r2 _ _ lW true _ (Kd.S_reads' (fSb RG.out BZ.out)).2.2 (Kd.S_reads' (fSb RG.out BZ.out)).2.1 (Kd.S_reads' (fSb RW.out BZ.out)).2.2 (Kd.S_reads' (fSb RW.out BZ.out)).2.1 hb1).mono ?_);rintro e w22 ⟨rfl,hb⟩;replace BZ:=aS (fZ BZ.out hb);clear hb;skip;refine zz3 (blk_below Kgg0.out BZ.out) ?_;intros)))
        go_upto_region 26 with (first | (go_at_call 12;go_loud ((with_reducible refine (laws_markStore.calls k g1 g2 (fun k_ => nF ≤ k_ ∧ k_ < gg0) AG cG lG 1 M1 M2 w _ (fZ BA.out BZ.out) (fSb RG.out BZ.out) hM).mono ?_);rintro e w23 ⟨rfl,hS,hb,hkp⟩;replace BA:=aS hb;replace KA:=aS (blk_kept (blk_below KA.out BZ.out) hkp (fun h_ => by have h2_ : nF ≤ ga ∧ ga < gg0:=h_;have:=LN.out;omega));replace KB:=aS (blk_kept (blk_below KB.out BZ.out) hkp (fun h_ => by have h2_ : nF ≤ gb ∧ gb < gg0:=h_;have:=LN.out;omega));replace Kgw0:=aS (blk_kept (blk_below Kgw0.out BZ.out) hkp (fun h_ => by have h2_ : nF ≤ gw0 ∧ gw0 < gg0:=h_;have:=LN.out;omega));replace Kgg0:=aS (blk_kept (blk_below Kgg0.out BZ.out) hkp (fun h_ => by have h2_ : nF ≤ gg0 ∧ gg0 < gg0:=h_;have:=LN.out;omega));replace RW:=aS (fS_step (fSb RW.out BZ.out) (fun k_ hk_ _ hl_ => hkp.2 k_ hl_ (fun h_ => by have h1_ : k_ ≠ gw0 ∧ k_ < nD:=hk_;have h2_ : nF ≤ k_ ∧ k_ < gg0:=h_;have:=LN.out;omega)));replace RG:=aS (fS_mono hS (fun k_ _ => trivial : ∀ k_,_ → (fun _ => True) k_));have lenG:=aS (Kd.S_reads' hS).1;replace BZ:=aS (Below.refl w23.heap.size w23);clear hS hb hkp;rw [lenG.out] at Kgg0 RG;skip;refine zz3 (blk_below Kgg0.out BZ.out) ?_;intros)))
        have kq1:=decide_eq_false (show ¬ q1 < 0 from fun h_ => absurd hqq.2.1 (by omega))
        have kqN:=bne_eq_false_iff_eq.mpr hqq.2.2
        go_upto_region 31 with (first | (go_at_call 14;go_loud ((with_reducible refine (laws_heldStore.calls k g1 g2 _ _ M2 1 q1 _ (Kd.S_reads' (fSb RG.out BZ.out)).2.2 (Kd.S_reads' (fSb RG.out BZ.out)).2.1 hq1).mono ?_);rintro e w25 ⟨rfl,hb⟩;replace BZ:=aS (fZ BZ.out hb);clear hb;skip;refine zz3 (blk_below KA.out BZ.out) ?_;intros;refine zz3 (blk_below KB.out BZ.out) ?_;intros)))
        replace RW:=aS (fSlt (fSb RW.out BZ.out))
        replace RG:=aS (fSlt (fSb RG.out BZ.out))
        replace BA:=aS (fZ BA.out BZ.out)
        replace KA:=aS (blk_below KA.out BZ.out)
        replace KB:=aS (blk_below KB.out BZ.out)
        replace Kgw0:=aS (blk_below Kgw0.out BZ.out)
        replace Kgg0:=aS (blk_below Kgg0.out BZ.out)
        replace RW:=aS RW.out
        replace RG:=aS RG.out
        replace BA:=aS (below_drew1 BA.out)
        replace KA:=aS (blk_drew KA.out)
        replace KB:=aS (blk_drew KB.out)
        replace Kgw0:=aS (blk_drew Kgw0.out)
        replace Kgg0:=aS (blk_drew Kgg0.out)
        replace RW:=aS (fSb RW.out (below_drew1 (Below.refl _ _)))
        replace RG:=aS (fSb RG.out (below_drew1 (Below.refl _ _)))
        refine start_ (n:=11) (S:=fun w' => w'.cell? ⟨ga,0,none⟩ = some (.int .i64 a0_0) ∧ w'.cell? ⟨ga,1,none⟩ = some (.int .i64 a0_1) ∧ w'.cell? ⟨ga,2,none⟩ = some (.slice A0_2 l0_2.length c0_2) ∧ w'.cell? ⟨gb,0,none⟩ = some (.int .i64 a1_0) ∧ w'.cell? ⟨gb,1,none⟩ = some (.int .i64 a1_1) ∧ w'.cell? ⟨gb,2,none⟩ = some (.slice A1_2 l1_2.length c1_2)) (ds:=[]) (bA 11 0) (by kernel_rfl) rfl rfl ⟨xc KA,xc KA,xc KA,xc KB,xc KB,xc KB⟩ (fun hHeld => ?_)
        have DRW:=aS (show w25.heap.size ≤ w25.drew.heap.size from Nat.le_refl _)
        clear BZ
        generalize w25.drew = w26 at DRW BA KA KB Kgw0 Kgg0 RW RG hHeld ⊢
        have BZ:=aS (Below.refl w26.heap.size w26)
        refine tB 0 95 1 ?_
        refine tB 2 97 5 ?_
        refine join_ (σ:=Option Addr × Nat × Option Addr × Nat × Option Addr × Nat × Nat) 2 (bA 11 511) (fun s_ => [(96,.agg #[.int .i64 x1,.int .i64 x2,.slice s_.2.2.1 lX.length s_.2.2.2.1]),(98,.agg #[.int .i64 y1,.int .i64 y2,.slice s_.2.2.2.2.1 lY.length s_.2.2.2.2.2.1]),(99,.tuple #[.agg #[.int .i64 g1,.int .i64 g2,.slice s_.1 lG.length s_.2.1],.bool g4]),(94,.tuple #[.agg #[.int .i64 g1,.int .i64 g2,.slice s_.1 lG.length s_.2.1],.bool g4]),(100,.agg #[.int .i64 g1,.int .i64 g2,.slice s_.1 lG.length s_.2.1]),(101,.bool g4),(15,.pointer (some ⟨s_.2.2.2.2.2.2,0,none⟩))]) (fun s_ w' => (w'.cell? ⟨ga,0,none⟩ = some (.int .i64 a0_0) ∧ w'.cell? ⟨ga,1,none⟩ = some (.int .i64 a0_1) ∧ w'.cell? ⟨ga,2,none⟩ = some (.slice A0_2 l0_2.length c0_2) ∧ w'.cell? ⟨gb,0,none⟩ = some (.int .i64 a1_0) ∧ w'.cell? ⟨gb,1,none⟩ = some (.int .i64 a1_1) ∧ w'.cell? ⟨gb,2,none⟩ = some (.slice A1_2 l1_2.length c1_2)) ∧ Below w26.heap.size w26 w' ∧ (w'.heap[s_.2.2.2.2.2.2]? = some (.cells #[.int .i64 0,.int .i64 0,.slice none 0 0] 32 (0,0))) ∧ rS w w' (fun k_ => k_ ≠ s_.2.2.2.2.2.2) s_.1 s_.2.1 lG ∧ w26.heap.size ≤ s_.2.2.2.2.2.2) ?_ ?_
        rotate_left
        · intro hCont
          refine two_ (i:=1) (j:=8) (Ni:=some 96) (Nj:=some 15) (bA 11 7) (bA 11 261) rfl rfl rfl rfl (by kernel_rfl) (by decide) (by decide) (fun K hK => ?_) (fun K hK => ?_)
          · refine goesS Tryz.func7 #[.agg #[.int .i64 a0_0,.int .i64 a0_1,.slice A0_2 l0_2.length c0_2]] ?_;with_reducible refine (laws_toStore.calls k a0_0 a0_1 _ _ l0_2 x1 x2 lX _ ?s1 hc0_2 hX).mono ?_;(case s1 => exact Kd.C_below hr0_2 (fZ BA.out BZ.out));rintro e w40 ⟨vT,rfl,hS,hb⟩;refine ⟨_,rfl,?_⟩;replace BZ:=aS (fZ BZ.out hb);obtain ⟨AT,cT,rfl⟩:=Kd.S_slice hS;have HT:=aS (Kd.S_reads' hS).2;clear hS hb;refine hK.out _ _ (czc3 (blk_below KA.out BZ.out) (cz3 (blk_below KB.out BZ.out))) (fun hHeld => ?_);clear hK K;refine norm_ (a':=?_) ?_ ?_;rotate_left;{show Act.put _ (some 96) _ = _;go_frame;(try simp only [i64_w,i32_w]);rfl}
            refine two_ (i:=3) (j:=8) (Ni:=some 98) (Nj:=some 15) (bA 11 15) (bA 11 263) rfl rfl rfl rfl (by kernel_rfl) (by decide) (by decide) (fun K hK => ?_) (fun K hK => ?_)
            · refine goesS Tryz.func8 #[.agg #[.int .i64 a1_0,.int .i64 a1_1,.slice A1_2 l1_2.length c1_2]] ?_;with_reducible refine (laws_toUnit.calls k a1_0 a1_1 _ _ l1_2 y1 y2 lY _ ?s1 hc1_2 hY).mono ?_;(case s1 => exact Kd.C_below hr1_2 (fZ BA.out BZ.out));rintro e w41 ⟨vU,rfl,hS,hb⟩;refine ⟨_,rfl,?_⟩;replace BZ:=aS (fZ BZ.out hb);replace HT:=aS (And.intro HT.out.1 (Kd.C_below HT.out.2 hb));obtain ⟨AU,cU,rfl⟩:=Kd.R_slice hS;have HU:=aS (Kd.R_reads' hS).2;clear hS hb;refine hK.out _ _ (czc3 (blk_below KA.out BZ.out) (cz3 (blk_below KB.out BZ.out))) (fun hHeld => ?_);clear hK K;refine norm_ (a':=?_) ?_ ?_;rotate_left;{show Act.put _ (some 98) _ = _;go_frame;(try simp only [i64_w,i32_w]);rfl}
              refine two_ (i:=4) (j:=8) (Ni:=some 99) (Nj:=some 15) (bA 11 31) (bA 11 271) rfl rfl rfl rfl (by kernel_rfl) (by decide) (by decide) (fun K hK => ?_) (fun K hK => ?_)
              · refine goesS Tryz.func9 #[.agg #[.int .i64 x1,.int .i64 x2,.slice AT lX.length cT],.agg #[.int .i64 y1,.int .i64 y2,.slice AU lY.length cU]] ?_;with_reducible refine (impl_PutUnit.calls k x1 x2 _ _ lX y1 y2 _ _ lY g1 g2 lG g4 _ HT.out.2 HT.out.1 HU.out.2 HU.out.1 hG).mono ?_;rintro e w42 ⟨vW,rfl,hS,hb⟩;refine ⟨_,rfl,?_⟩;have hle_:=below_size (fZ BA.out BZ.out);have hlt_:=trivial;replace BZ:=aS (fZ BZ.out hb);replace HT:=aS (And.intro HT.out.1 (Kd.C_below HT.out.2 hb));replace HU:=aS (And.intro HU.out.1 (Kd.C_below HU.out.2 hb));obtain ⟨AH,cH,rfl⟩:=Kd.S_slice hS;have RH:=aS (fS_low (fS_mono (fS_win hS) (fun k_ hk_ => (trivial : (fun _ => True) k_))) hle_);clear hS hb hle_ hlt_;refine hK.out _ _ (czc3 (blk_below KA.out BZ.out) (cz3 (blk_below KB.out BZ.out))) (fun hHeld => ?_);clear hK K;refine norm_ (a':=?_) ?_ ?_;rotate_left;{show Act.put _ (some 99) _ = _;go_frame;(try simp only [i64_w,i32_w]);rfl}
                refine pB 5 94 63 ?_
                refine pB 6 100 127 ?_
                refine pB 7 101 255 ?_
                refine oneB 8 15 511 fun K hK => ?_
                refine box_step ?hg (N:=15) ?hd (cs:=#[.int .i64 0,.int .i64 0,.slice none 0 0]) (t:=32) ?hr ?_;(case hd => rfl);(case hg => rfl);(case hr => first | (go_simp;done) | (go_simp;rfl));intro gh0 hg_ w43 hbx hb;have Ggh0:=aS (by rw [hg_];exact BZ.out.size : w26.heap.size ≤ gh0);replace RH:=aS (fS_mono (fS_win RH.out) (fun k_ hk_ => (by rw [hg_];exact Nat.ne_of_lt hk_.2.2 : k_ ≠ gh0)));replace BZ:=aS (fZ BZ.out hb);replace HT:=aS (And.intro HT.out.1 (Kd.C_below HT.out.2 hb));replace HU:=aS (And.intro HU.out.1 (Kd.C_below HU.out.2 hb));replace RH:=aS (fSb RH.out hb);have Kgh0:=aS hbx;clear hg_ hb hbx;refine hK.out _ _ (czc3 (blk_below KA.out BZ.out) (cz3 (blk_below KB.out BZ.out))) (fun hHeld => ?_);clear hK K;refine norm_ (a':=?_) ?_ ?_;rotate_left;{show Act.put _ (some 15) _ = _;go_frame;(try simp only [i64_w,i32_w]);rfl}
                exact norm_ (by simp only [putAll,Act.put,List.setIfInBounds_toArray,List.set_cons_zero,List.set_cons_succ]) (hCont (AH,cH,AT,cT,AU,cU,gh0) _ ⟨hHeld,BZ.out,Kgh0.out,RH.out,Ggh0.out⟩)
              · refine box_step ?hg (N:=15) ?hd (cs:=#[.int .i64 0,.int .i64 0,.slice none 0 0]) (t:=32) ?hr ?_;(case hd => rfl);(case hg => rfl);(case hr => first | (go_simp;done) | (go_simp;rfl));intro gh0 hg_ w42 hbx hb;have Ggh0:=aS (by rw [hg_];exact BZ.out.size : w26.heap.size ≤ gh0);replace BZ:=aS (fZ BZ.out hb);replace HT:=aS (And.intro HT.out.1 (Kd.C_below HT.out.2 hb));replace HU:=aS (And.intro HU.out.1 (Kd.C_below HU.out.2 hb));have Kgh0:=aS hbx;clear hg_ hb hbx;refine hK.out _ _ (czc3 (blk_below KA.out BZ.out) (cz3 (blk_below KB.out BZ.out))) (fun hHeld => ?_);clear hK K;refine norm_ (a':=?_) ?_ ?_;rotate_left;{show Act.put _ (some 15) _ = _;go_frame;(try simp only [i64_w,i32_w]);rfl}
                refine oneB 4 99 287 fun K hK => ?_
                refine goesS Tryz.func9 #[.agg #[.int .i64 x1,.int .i64 x2,.slice AT lX.length cT],.agg #[.int .i64 y1,.int .i64 y2,.slice AU lY.length cU]] ?_;with_reducible refine (impl_PutUnit.calls k x1 x2 _ _ lX y1 y2 _ _ lY g1 g2 lG g4 _ HT.out.2 HT.out.1 HU.out.2 HU.out.1 hG).mono ?_;rintro e w43 ⟨vW,rfl,hS,hb⟩;refine ⟨_,rfl,?_⟩;have hle_:=below_size (fZ BA.out BZ.out);have hlt_:=blk_lt Kgh0.out;replace BZ:=aS (fZ BZ.out hb);replace HT:=aS (And.intro HT.out.1 (Kd.C_below HT.out.2 hb));replace HU:=aS (And.intro HU.out.1 (Kd.C_below HU.out.2 hb));replace Kgh0:=aS (blk_below Kgh0.out hb);obtain ⟨AH,cH,rfl⟩:=Kd.S_slice hS;have RH:=aS (fS_low (fS_mono (fS_win hS) (fun k_ hk_ => (Nat.ne_of_gt (Nat.lt_of_lt_of_le hlt_ hk_.2.1) : k_ ≠ gh0))) hle_);clear hS hb hle_ hlt_;refine hK.out _ _ (czc3 (blk_below KA.out BZ.out) (cz3 (blk_below KB.out BZ.out))) (fun hHeld => ?_);clear hK K;refine norm_ (a':=?_) ?_ ?_;rotate_left;{show Act.put _ (some 99) _ = _;go_frame;(try simp only [i64_w,i32_w]);rfl}
                refine pB 5 94 319 ?_
                refine pB 6 100 383 ?_
                refine pB 7 101 511 ?_
                exact norm_ (by simp only [putAll,Act.put,List.setIfInBounds_toArray,List.set_cons_zero,List.set_cons_succ]) (hCont (AH,cH,AT,cT,AU,cU,gh0) _ ⟨hHeld,BZ.out,Kgh0.out,RH.out,Ggh0.out⟩)
            · refine box_step ?hg (N:=15) ?hd (cs:=#[.int .i64 0,.int .i64 0,.slice none 0 0]) (t:=32) ?hr ?_;(case hd => rfl);(case hg => rfl);(case hr => first | (go_simp;done) | (go_simp;rfl));intro gh0 hg_ w41 hbx hb;have Ggh0:=aS (by rw [hg_];exact BZ.out.size : w26.heap.size ≤ gh0);replace BZ:=aS (fZ BZ.out hb);replace HT:=aS (And.intro HT.out.1 (Kd.C_below HT.out.2 hb));have Kgh0:=aS hbx;clear hg_ hb hbx;refine hK.out _ _ (czc3 (blk_below KA.out BZ.out) (cz3 (blk_below KB.out BZ.out))) (fun hHeld => ?_);clear hK K;refine norm_ (a':=?_) ?_ ?_;rotate_left;{show Act.put _ (some 15) _ = _;go_frame;(try simp only [i64_w,i32_w]);rfl}
              refine oneB 3 98 271 fun K hK => ?_
              refine goesS Tryz.func8 #[.agg #[.int .i64 a1_0,.int .i64 a1_1,.slice A1_2 l1_2.length c1_2]] ?_;with_reducible refine (laws_toUnit.calls k a1_0 a1_1 _ _ l1_2 y1 y2 lY _ ?s1 hc1_2 hY).mono ?_;(case s1 => exact Kd.C_below hr1_2 (fZ BA.out BZ.out));rintro e w42 ⟨vU,rfl,hS,hb⟩;refine ⟨_,rfl,?_⟩;replace BZ:=aS (fZ BZ.out hb);replace HT:=aS (And.intro HT.out.1 (Kd.C_below HT.out.2 hb));replace Kgh0:=aS (blk_below Kgh0.out hb);obtain ⟨AU,cU,rfl⟩:=Kd.R_slice hS;have HU:=aS (Kd.R_reads' hS).2;clear hS hb;refine hK.out _ _ (czc3 (blk_below KA.out BZ.out) (cz3 (blk_below KB.out BZ.out))) (fun hHeld => ?_);clear hK K;refine norm_ (a':=?_) ?_ ?_;rotate_left;{show Act.put _ (some 98) _ = _;go_frame;(try simp only [i64_w,i32_w]);rfl}
              refine oneB 4 99 287 fun K hK => ?_
              refine goesS Tryz.func9 #[.agg #[.int .i64 x1,.int .i64 x2,.slice AT lX.length cT],.agg #[.int .i64 y1,.int .i64 y2,.slice AU lY.length cU]] ?_;with_reducible refine (impl_PutUnit.calls k x1 x2 _ _ lX y1 y2 _ _ lY g1 g2 lG g4 _ HT.out.2 HT.out.1 HU.out.2 HU.out.1 hG).mono ?_;rintro e w43 ⟨vW,rfl,hS,hb⟩;refine ⟨_,rfl,?_⟩;have hle_:=below_size (fZ BA.out BZ.out);have hlt_:=blk_lt Kgh0.out;replace BZ:=aS (fZ BZ.out hb);replace HT:=aS (And.intro HT.out.1 (Kd.C_below HT.out.2 hb));replace HU:=aS (And.intro HU.out.1 (Kd.C_below HU.out.2 hb));replace Kgh0:=aS (blk_below Kgh0.out hb);obtain ⟨AH,cH,rfl⟩:=Kd.S_slice hS;have RH:=aS (fS_low (fS_mono (fS_win hS) (fun k_ hk_ => (Nat.ne_of_gt (Nat.lt_of_lt_of_le hlt_ hk_.2.1) : k_ ≠ gh0))) hle_);clear hS hb hle_ hlt_;refine hK.out _ _ (czc3 (blk_below KA.out BZ.out) (cz3 (blk_below KB.out BZ.out))) (fun hHeld => ?_);clear hK K;refine norm_ (a':=?_) ?_ ?_;rotate_left;{show Act.put _ (some 99) _ = _;go_frame;(try simp only [i64_w,i32_w]);rfl}
              refine pB 5 94 319 ?_
              refine pB 6 100 383 ?_
              refine pB 7 101 511 ?_
              exact norm_ (by simp only [putAll,Act.put,List.setIfInBounds_toArray,List.set_cons_zero,List.set_cons_succ]) (hCont (AH,cH,AT,cT,AU,cU,gh0) _ ⟨hHeld,BZ.out,Kgh0.out,RH.out,Ggh0.out⟩)
          · refine box_step ?hg (N:=15) ?hd (cs:=#[.int .i64 0,.int .i64 0,.slice none 0 0]) (t:=32) ?hr ?_;(case hd => rfl);(case hg => rfl);(case hr => first | (go_simp;done) | (go_simp;rfl));intro gh0 hg_ w40 hbx hb;have Ggh0:=aS (by rw [hg_];exact BZ.out.size : w26.heap.size ≤ gh0);replace BZ:=aS (fZ BZ.out hb);have Kgh0:=aS hbx;clear hg_ hb hbx;refine hK.out _ _ (czc3 (blk_below KA.out BZ.out) (cz3 (blk_below KB.out BZ.out))) (fun hHeld => ?_);clear hK K;refine norm_ (a':=?_) ?_ ?_;rotate_left;{show Act.put _ (some 15) _ = _;go_frame;(try simp only [i64_w,i32_w]);rfl}
            refine oneB 1 96 263 fun K hK => ?_
            refine goesS Tryz.func7 #[.agg #[.int .i64 a0_0,.int .i64 a0_1,.slice A0_2 l0_2.length c0_2]] ?_;with_reducible refine (laws_toStore.calls k a0_0 a0_1 _ _ l0_2 x1 x2 lX _ ?s1 hc0_2 hX).mono ?_;(case s1 => exact Kd.C_below hr0_2 (fZ BA.out BZ.out));rintro e w41 ⟨vT,rfl,hS,hb⟩;refine ⟨_,rfl,?_⟩;replace BZ:=aS (fZ BZ.out hb);replace Kgh0:=aS (blk_below Kgh0.out hb);obtain ⟨AT,cT,rfl⟩:=Kd.S_slice hS;have HT:=aS (Kd.S_reads' hS).2;clear hS hb;refine hK.out _ _ (czc3 (blk_below KA.out BZ.out) (cz3 (blk_below KB.out BZ.out))) (fun hHeld => ?_);clear hK K;refine norm_ (a':=?_) ?_ ?_;rotate_left;{show Act.put _ (some 96) _ = _;go_frame;(try simp only [i64_w,i32_w]);rfl}
            refine oneB 3 98 271 fun K hK => ?_
            refine goesS Tryz.func8 #[.agg #[.int .i64 a1_0,.int .i64 a1_1,.slice A1_2 l1_2.length c1_2]] ?_;with_reducible refine (laws_toUnit.calls k a1_0 a1_1 _ _ l1_2 y1 y2 lY _ ?s1 hc1_2 hY).mono ?_;(case s1 => exact Kd.C_below hr1_2 (fZ BA.out BZ.out));rintro e w42 ⟨vU,rfl,hS,hb⟩;refine ⟨_,rfl,?_⟩;replace BZ:=aS (fZ BZ.out hb);replace HT:=aS (And.intro HT.out.1 (Kd.C_below HT.out.2 hb));replace Kgh0:=aS (blk_below Kgh0.out hb);obtain ⟨AU,cU,rfl⟩:=Kd.R_slice hS;have HU:=aS (Kd.R_reads' hS).2;clear hS hb;refine hK.out _ _ (czc3 (blk_below KA.out BZ.out) (cz3 (blk_below KB.out BZ.out))) (fun hHeld => ?_);clear hK K;refine norm_ (a':=?_) ?_ ?_;rotate_left;{show Act.put _ (some 98) _ = _;go_frame;(try simp only [i64_w,i32_w]);rfl}
            refine oneB 4 99 287 fun K hK => ?_
            refine goesS Tryz.func9 #[.agg #[.int .i64 x1,.int .i64 x2,.slice AT lX.length cT],.agg #[.int .i64 y1,.int .i64 y2,.slice AU lY.length cU]] ?_;with_reducible refine (impl_PutUnit.calls k x1 x2 _ _ lX y1 y2 _ _ lY g1 g2 lG g4 _ HT.out.2 HT.out.1 HU.out.2 HU.out.1 hG).mono ?_;rintro e w43 ⟨vW,rfl,hS,hb⟩;refine ⟨_,rfl,?_⟩;have hle_:=below_size (fZ BA.out BZ.out);have hlt_:=blk_lt Kgh0.out;replace BZ:=aS (fZ BZ.out hb);replace HT:=aS (And.intro HT.out.1 (Kd.C_below HT.out.2 hb));replace HU:=aS (And.intro HU.out.1 (Kd.C_below HU.out.2 hb));replace Kgh0:=aS (blk_below Kgh0.out hb);obtain ⟨AH,cH,rfl⟩:=Kd.S_slice hS;have RH:=aS (fS_low (fS_mono (fS_win hS) (fun k_ hk_ => (Nat.ne_of_gt (Nat.lt_of_lt_of_le hlt_ hk_.2.1) : k_ ≠ gh0))) hle_);clear hS hb hle_ hlt_;refine hK.out _ _ (czc3 (blk_below KA.out BZ.out) (cz3 (blk_below KB.out BZ.out))) (fun hHeld => ?_);clear hK K;refine norm_ (a':=?_) ?_ ?_;rotate_left;{show Act.put _ (some 99) _ = _;go_frame;(try simp only [i64_w,i32_w]);rfl}
            refine pB 5 94 319 ?_
            refine pB 6 100 383 ?_
            refine pB 7 101 511 ?_
            exact norm_ (by simp only [putAll,Act.put,List.setIfInBounds_toArray,List.set_cons_zero,List.set_cons_succ]) (hCont (AH,cH,AT,cT,AU,cU,gh0) _ ⟨hHeld,BZ.out,Kgh0.out,RH.out,Ggh0.out⟩)
        rintro ⟨AH,cH,AT,cT,AU,cU,gh0⟩ w70 ⟨hS_,h0_,h1_,h2_,h3_⟩
        replace BZ:=aS (show Below w26.heap.size w26 w70 from h0_)
        have Kgh0:=aS (show w70.heap[gh0]? = some (.cells #[.int .i64 0,.int .i64 0,.slice none 0 0] 32 (0,0)) from h1_)
        have RH:=aS (show rS w w70 (fun k_ => k_ ≠ gh0) AH cH lG from h2_)
        have Ggh0:=aS (show w26.heap.size ≤ gh0 from h3_)
        have hHeld : w70.cell? ⟨ga,0,none⟩ = some (.int .i64 a0_0) ∧ w70.cell? ⟨ga,1,none⟩ = some (.int .i64 a0_1) ∧ w70.cell? ⟨ga,2,none⟩ = some (.slice A0_2 l0_2.length c0_2) ∧ w70.cell? ⟨gb,0,none⟩ = some (.int .i64 a1_0) ∧ w70.cell? ⟨gb,1,none⟩ = some (.int .i64 a1_1) ∧ w70.cell? ⟨gb,2,none⟩ = some (.slice A1_2 l1_2.length c1_2):=hS_
        clear h0_ h1_ h2_ h3_ hS_
        refine norm_ (a':=?_) ?_ ?_
        rotate_left
        · simp only [putAll,Act.put,List.setIfInBounds_toArray,List.set_cons_zero,List.set_cons_succ];rfl
        obtain ⟨lt_gagh0,A_gh0ga,A_gagh0,n_gh0ga,n_gagh0⟩:=fNe rfl (Nat.lt_of_lt_of_le (blk_lt KA.out) Ggh0.out)
        obtain ⟨lt_gbgh0,A_gh0gb,A_gbgh0,n_gh0gb,n_gbgh0⟩:=fNe rfl (Nat.lt_of_lt_of_le (blk_lt KB.out) Ggh0.out)
        obtain ⟨lt_gw0gh0,A_gh0gw0,A_gw0gh0,n_gh0gw0,n_gw0gh0⟩:=fNe rfl (Nat.lt_of_lt_of_le (blk_lt Kgw0.out) Ggh0.out)
        obtain ⟨lt_gg0gh0,A_gh0gg0,A_gg0gh0,n_gh0gg0,n_gg0gh0⟩:=fNe rfl (Nat.lt_of_lt_of_le (blk_lt Kgg0.out) Ggh0.out)
        refine zz3 Kgh0.out ?_;intros
        refine one_ (i:=9) (N:=none) (bA 11 1023) rfl rfl (by kernel_rfl) (by decide) (fun K hK => ?_)
        refine skip_ (w1:=?_) (by rfl) rfl ?_ ?_
        rotate_left
        · go_simp;rfl
        refine hK.out _ _ ⟨(oK hHeld.1 A_gagh0.out),(oK hHeld.2.1 A_gagh0.out),(oK hHeld.2.2.1 A_gagh0.out),(oK hHeld.2.2.2.1 A_gbgh0.out),(oK hHeld.2.2.2.2.1 A_gbgh0.out),(oK hHeld.2.2.2.2.2 A_gbgh0.out)⟩ (fun hHeld => ?_)
        clear hK K
        have Lgh0:=aS (Nat.le_trans (below_size BA.out) Ggh0.out)
        replace BA:=aS (show Below w.heap.size w (((w70.setCell ⟨gh0,0,none⟩ (.int .i64 g1)).setCell ⟨gh0,1,none⟩ (.int .i64 g2)).setCell ⟨gh0,2,none⟩ (.slice AH lG.length cH)) from by repeat (first | exact fZ BA.out BZ.out | refine below_set ?_ Lgh0.out))
        replace KA:=aS (show bB (((w70.setCell ⟨gh0,0,none⟩ (.int .i64 g1)).setCell ⟨gh0,1,none⟩ (.int .i64 g2)).setCell ⟨gh0,2,none⟩ (.slice AH lG.length cH)) 24 ga a0_0 a0_1 A0_2 l0_2.length c0_2 from oP (blk_below KA.out BZ.out))
        replace KB:=aS (show bB (((w70.setCell ⟨gh0,0,none⟩ (.int .i64 g1)).setCell ⟨gh0,1,none⟩ (.int .i64 g2)).setCell ⟨gh0,2,none⟩ (.slice AH lG.length cH)) 27 gb a1_0 a1_1 A1_2 l1_2.length c1_2 from oP (blk_below KB.out BZ.out))
        replace Kgw0:=aS (show bB (((w70.setCell ⟨gh0,0,none⟩ (.int .i64 g1)).setCell ⟨gh0,1,none⟩ (.int .i64 g2)).setCell ⟨gh0,2,none⟩ (.slice AH lG.length cH)) 32 gw0 r1 r2 AW lW.length cW from oP (blk_below Kgw0.out BZ.out))
        replace Kgg0:=aS (show bB (((w70.setCell ⟨gh0,0,none⟩ (.int .i64 g1)).setCell ⟨gh0,1,none⟩ (.int .i64 g2)).setCell ⟨gh0,2,none⟩ (.slice AH lG.length cH)) 32 gg0 g1 g2 AG M2.length cG from oP (blk_below Kgg0.out BZ.out))
        replace RW:=aS (show rS w (((w70.setCell ⟨gh0,0,none⟩ (.int .i64 g1)).setCell ⟨gh0,1,none⟩ (.int .i64 g2)).setCell ⟨gh0,2,none⟩ (.slice AH lG.length cH)) (fun k_ => k_ < w25.heap.size) AW cW lW from fSp (g:=gh0) (g':=gh0) (fSb RW.out BZ.out) (fun k_ hk_ => by have:=hk_;have:=Ggh0.out;have:=DRW.out;omega))
        replace RG:=aS (show rS w (((w70.setCell ⟨gh0,0,none⟩ (.int .i64 g1)).setCell ⟨gh0,1,none⟩ (.int .i64 g2)).setCell ⟨gh0,2,none⟩ (.slice AH lG.length cH)) (fun k_ => k_ < w25.heap.size) AG cG M2 from fSp (g:=gh0) (g':=gh0) (fSb RG.out BZ.out) (fun k_ hk_ => by have:=hk_;have:=Ggh0.out;have:=DRW.out;omega))
        replace Kgh0:=aS (show bB (((w70.setCell ⟨gh0,0,none⟩ (.int .i64 g1)).setCell ⟨gh0,1,none⟩ (.int .i64 g2)).setCell ⟨gh0,2,none⟩ (.slice AH lG.length cH)) 32 gh0 g1 g2 AH lG.length cH from oP Kgh0.out)
        replace RH:=aS (show rS w (((w70.setCell ⟨gh0,0,none⟩ (.int .i64 g1)).setCell ⟨gh0,1,none⟩ (.int .i64 g2)).setCell ⟨gh0,2,none⟩ (.slice AH lG.length cH)) (fun k_ => k_ ≠ gh0) AH cH lG from fSp (g:=gh0) (g':=gh0) RH.out (fun k_ hk_ => ⟨hk_,hk_⟩))
        clear BZ
        generalize ((w70.setCell ⟨gh0,0,none⟩ (.int .i64 g1)).setCell ⟨gh0,1,none⟩ (.int .i64 g2)).setCell ⟨gh0,2,none⟩ (.slice AH lG.length cH) = w31 at BA KA KB Kgw0 Kgg0 RW RG Kgh0 RH hHeld ⊢
        refine pB 10 16 2047 ?_
        refine done_ (by kernel_rfl) ?_
        clear hHeld
        have BZ:=aS (Below.refl w31.heap.size w31)
        refine zz3 Kgh0.out ?_;intros;refine zz3 Kgw0.out ?_;intros
        go_upto_region 34 with (first | (go_at_call 10;go_loud ((with_reducible refine (laws_eqStore.calls k g1 g2 _ _ lG r1 r2 _ _ lW true _ (Kd.S_reads' (fSb RH.out BZ.out)).2.2 (Kd.S_reads' (fSb RH.out BZ.out)).2.1 (Kd.S_reads' (fSb RW.out BZ.out)).2.2 (Kd.S_reads' (fSb RW.out BZ.out)).2.1 hb1).mono ?_);rintro e w32 ⟨rfl,hb⟩;replace BZ:=aS (fZ BZ.out hb);clear hb;skip;refine zz3 (blk_below Kgg0.out BZ.out) ?_;intros)))
        go_wp2_with (first | (go_at_call 14;go_loud ((with_reducible refine (laws_heldStore.calls k g1 g2 _ _ M2 1 q1 _ (Kd.S_reads' (fSb RG.out BZ.out)).2.2 (Kd.S_reads' (fSb RG.out BZ.out)).2.1 hq1).mono ?_);rintro e w34 ⟨rfl,hb⟩;replace BZ:=aS (fZ BZ.out hb);clear hb;skip)))
        go_ret
        exact ⟨rfl,(fZ BA.out BZ.out)⟩
end Go.Proofs.YtjnifnhpnccpcaaGreat.J
