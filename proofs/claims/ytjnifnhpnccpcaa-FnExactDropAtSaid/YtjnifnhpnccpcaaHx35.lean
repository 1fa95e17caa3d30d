-- Made by this session's program gprint.py out of the translation. Not trusted: Lean checks it.
import Derived.Test.YtjnifnhpnccpcaaHx0
import Derived.Test.YtjnifnhpnccpcaaHx3
import Derived.Test.YtjnifnhpnccpcaaHx4
import Derived.Test.YtjnifnhpnccpcaaHx7
import Derived.Test.YtjnifnhpnccpcaaHx9
import Derived.Test.YtjnifnhpnccpcaaHx10
import Derived.Test.YtjnifnhpnccpcaaHx20
import Derived.Test.YtjnifnhpnccpcaaHx34
namespace Go.Proofs.Ytjnifnhpnccpcaa.H
open Go.RowKit Go.Proofs.YtjnifnhpnccpcaaW.PrintWords Go.Proofs.YtjnifnhpnccpcaaW.PrintLast Go.Proofs.YtjnifnhpnccpcaaW.PrintMore
attribute [local go_sem] max2_int min2_int max_two min_two max_three min_three max_four min_four
set_option linter.unusedVariables false
set_option linter.unusedSimpArgs false
section
variable {α : Type} {d : Kd α} {e : Nat} {w w1 : World} {base : Nat} {ok : Nat → Prop} {v : Value} {xs : List α}
theorem fS_step (h : Kd.S d e w base ok v xs) (hm : ∀ k,ok k → base ≤ k → k < w.heap.size → w1.heap[k]? = w.heap[k]?) : Kd.S d e w1 base ok v xs:=by
  obtain ⟨f,h⟩:=h
  exact ⟨f,Kd.R_mono (Kd.R_step (Kd.R_bound h) (fun k hk hlt => hm k hk.1 hk.2.1 hlt)) (fun _ hk => hk.1)⟩
theorem fR_step (h : d.R e w base ok v xs) (hm : ∀ k,ok k → base ≤ k → k < w.heap.size → w1.heap[k]? = w.heap[k]?) : d.R e w1 base ok v xs :=
  Kd.R_mono (Kd.R_step (Kd.R_bound h) (fun k hk hlt => hm k hk.1 hk.2.1 hlt)) (fun _ hk => hk.1)
theorem fS_win (h : Kd.S d e w base ok v xs) : Kd.S d e w base (fun k => ok k ∧ base ≤ k ∧ k < w.heap.size) v xs:=by
  obtain ⟨f,h⟩:=h
  exact ⟨f,Kd.R_mono (Kd.R_bound h) (fun k hk => ⟨hk.1,hk.2.1,hk.2.2.1⟩)⟩
theorem fR_win (h : d.R e w base ok v xs) : d.R e w base (fun k => ok k ∧ base ≤ k ∧ k < w.heap.size) v xs:=Kd.R_mono (Kd.R_bound h) (fun k hk => ⟨hk.1,hk.2.1,hk.2.2.1⟩)
theorem fS_low {b' : Nat} (h : Kd.S d e w base ok v xs) (hb : b' ≤ base) : Kd.S d e w b' ok v xs:=by
  obtain ⟨f,h⟩:=h
  exact ⟨f,Kd.R_lower h hb⟩
theorem fS_mono {ok' : Nat → Prop} (h : Kd.S d e w base ok v xs) (hk : ∀ k,ok k → ok' k) : Kd.S d e w base ok' v xs:=by
  obtain ⟨f,h⟩:=h
  exact ⟨f,Kd.R_mono h hk⟩
end
theorem fR_ownlt {α : Type} {d : Kd α} {e : Nat} {w : World} {base : Nat} {ok : Nat → Prop} {v : Value} {xs : List α} (h : d.R e w base ok v xs) : ∀ k,some k = v.ownBlock → k < w.heap.size:=fun k hk => ((Kd.R_bound h).1 k hk.symm).2.2.1
theorem fNe {b g n : Nat} (hg : g = n) (h : b < n) : Aside0 (b < g) ∧ Aside0 (g ≠ b) ∧ Aside0 (b ≠ g) ∧ g ≠ b ∧ b ≠ g:=by subst hg;exact ⟨⟨h⟩,⟨Nat.ne_of_gt h⟩,⟨Nat.ne_of_lt h⟩,Nat.ne_of_gt h,Nat.ne_of_lt h⟩
theorem fSp {α : Type} {d : Kd α} {e : Nat} {w w1 : World} {base g g' : Nat} {ok : Nat → Prop} {v : Value} {xs : List α} (h : Kd.S d e w base ok v xs) (hk : ∀ k,ok k → k ≠ g ∧ k ≠ g') (s : Keep2 w w1 g g':=by repeat (with_reducible first | exact keep2_refl _ _ _ | apply keep2_put1 | apply keep2_put2 | apply keep2_drewN | apply keep2_drew)) : Kd.S d e w1 base ok v xs:=fS_step h (fun k h0 _ hl => s.2 k hl (hk k h0).1 (hk k h0).2)
theorem fRp {α : Type} {d : Kd α} {e : Nat} {w w1 : World} {base g g' : Nat} {ok : Nat → Prop} {v : Value} {xs : List α} (h : d.R e w base ok v xs) (hk : ∀ k,ok k → k ≠ g ∧ k ≠ g') (s : Keep2 w w1 g g':=by repeat (with_reducible first | exact keep2_refl _ _ _ | apply keep2_put1 | apply keep2_put2 | apply keep2_drewN | apply keep2_drew)) : d.R e w1 base ok v xs:=fR_step h (fun k h0 _ hl => s.2 k hl (hk k h0).1 (hk k h0).2)
theorem fZ {w W W2 : World} (h : Below w.heap.size w W) (hb : Below W.heap.size W W2) : Below w.heap.size w W2:=h.trans (below_low' hb h.size)
theorem fSb {α : Type} {d : Kd α} {e : Nat} {w w1 : World} {base : Nat} {ok : Nat → Prop} {v : Value} {xs : List α} (h : Kd.S d e w base ok v xs) (hb : Below w.heap.size w w1) : Kd.S d e w1 base ok v xs:=fS_step h (fun k _ _ hl => hb.block k hl)
theorem fRb {α : Type} {d : Kd α} {e : Nat} {w w1 : World} {base : Nat} {ok : Nat → Prop} {v : Value} {xs : List α} (h : d.R e w base ok v xs) (hb : Below w.heap.size w w1) : d.R e w1 base ok v xs:=fR_step h (fun k _ _ hl => hb.block k hl)
theorem fSlt {α : Type} {d : Kd α} {e : Nat} {w : World} {base : Nat} {ok : Nat → Prop} {v : Value} {xs : List α} (h : Kd.S d e w base ok v xs) : Kd.S d e w base (fun k => k < w.heap.size) v xs:=fS_mono (fS_win h) (fun _ hk => hk.2.2)
theorem fRlt {α : Type} {d : Kd α} {e : Nat} {w : World} {base : Nat} {ok : Nat → Prop} {v : Value} {xs : List α} (h : d.R e w base ok v xs) : d.R e w base (fun k => k < w.heap.size) v xs:=Kd.R_mono (fR_win h) (fun _ hk => hk.2.2)
abbrev bB (W : World) (t g : Nat) (a b : Int) (A : Option Addr) (n c : Nat) : Prop:=W.heap[g]? = some (.cells #[.int .i64 a,.int .i64 b,.slice A n c] t (0,0))
abbrev rS (w W : World) (ok : Nat → Prop) (A : Option Addr) (c : Nat) (l : List S101) : Prop:=Kd.S k101 101 W w.heap.size ok (.slice A l.length c) l
abbrev rR (w W : World) (ok : Nat → Prop) (A : Option Addr) (c : Nat) (l : List S88) : Prop:=Kd.R k88 88 W w.heap.size ok (.slice A l.length c) l
theorem fNp {α : Type} {d : Kd α} {e : Nat} {w w1 : World} {base g g' : Nat} {ok : Nat → Prop} {v : Value} {xs : List α} (h : Kd.N d e w base ok v xs) (hk : ∀ k,ok k → k ≠ g ∧ k ≠ g') (s : Keep2 w w1 g g':=by repeat (with_reducible first | exact keep2_refl _ _ _ | apply keep2_put1 | apply keep2_put2 | apply keep2_drewN | apply keep2_drew)) : Kd.N d e w1 base ok v xs:=Kd.N_step h (fun k h0 hl => s.2 k hl (hk k h0).1 (hk k h0).2)
theorem fNb {α : Type} {d : Kd α} {e : Nat} {w w1 : World} {base : Nat} {ok : Nat → Prop} {v : Value} {xs : List α} (h : Kd.N d e w base ok v xs) (hb : Below w.heap.size w w1) : Kd.N d e w1 base ok v xs:=Kd.N_step h (fun k _ hl => hb.block k hl)
theorem fNlt {α : Type} {d : Kd α} {e : Nat} {w : World} {base : Nat} {ok : Nat → Prop} {v : Value} {xs : List α} (h : Kd.N d e w base ok v xs) : Kd.N d e w base (fun k => k < w.heap.size) v xs:=Kd.N_mono (Kd.N_bound h) (fun _ hk => hk.2)
theorem fV {α : Type} {d : Kd α} {e b : Nat} {w : World} {base n c : Nat} {A : Option Addr} {ok : Nat → Prop} {xs : List α} (h : Kd.S d e w base ok (.slice A n c) xs) : Kd.V d e w b (fun k => k < w.heap.size) (.slice A n c) xs:=by
  obtain ⟨hn,hc,_⟩:=Kd.S_reads' h
  subst hn
  exact ⟨A,c,rfl,hc,Kd.N_F (fNlt (Kd.S_N h))⟩
abbrev rN (w W : World) (ok : Nat → Prop) (A : Option Addr) (c : Nat) (l : List S101) : Prop:=Kd.N k101 101 W w.heap.size ok (.slice A l.length c) l
theorem fW {P : Program} {c : Code} {Q : Exit → Act → World → Prop} {a : Act} {W : World} (F : World → Prop) (hF : F W) (h : ∀ W',F W' → c.wp P Q a W') : c.wp P Q a W:=h W hF
def laws_FnExactDropAt.f (k : Nat) (a0_0 a0_1 : Int) (l0_2 : List S124) (a1 a2 : Int) : Option Bool :=
  (laws_szStore.f k a0_0 a0_1 l0_2 1048576).bind fun t => if t < 0 then some true else
    (laws_toStore.f k a0_0 a0_1 l0_2).bind fun X => (spec_DropAt.f k X.1 X.2.1 X.2.2 a1 a2).bind fun V => (impl_DropAt.f k X.1 X.2.1 X.2.2 a1 a2).bind fun G =>
      (laws_eqStore.f k G.1 G.2.1 G.2.2.1 V.1 V.2.1 V.2.2.1).bind fun b1 => (laws_eqStore.f k X.1 X.2.1 X.2.2 X.1 X.2.1 X.2.2).bind fun b3 =>
        if b1 = true ∧ G.2.2.2.1 = V.2.2.2.1 ∧ G.2.2.2.2 = V.2.2.2.2 ∧ b3 = true then
          (laws_markStore.f k X.1 X.2.1 X.2.2 1).bind fun K => (laws_markStore.f k G.1 G.2.1 G.2.2.1 1).bind fun M =>
            (laws_heldStore.f k G.1 G.2.1 M.2 1).bind fun q1 => if 0 ≤ K.1 ∧ 0 ≤ q1 ∧ q1 = M.1 then some true else none
        else none
set_option maxHeartbeats 8000000 in
set_option maxRecDepth 100000 in
theorem laws_FnExactDropAt.calls (k : Nat) (a0_0 : Int) (a0_1 : Int) (A0_2 : Option Addr) (c0_2 : Nat) (l0_2 : List S124) (a1 a2 : Int) (r : Bool) (hr_ : Aside0 (r = true)) (w : World) (hr0_2 : Kd.C k124 w A0_2 l0_2.length l0_2) (hc0_2 : l0_2.length ≤ c0_2) (h : laws_FnExactDropAt.f k a0_0 a0_1 l0_2 a1 a2 = some r) :
    Calls Try.prog 9 #[.agg #[.int .i64 a0_0,.int .i64 a0_1,.slice A0_2 l0_2.length c0_2],.int .i64 a1,.int .i64 a2] w fun e w' => e = .returned (.bool r) ∧ Below w.heap.size w w':=by
  have hu56:=Try.underlying56
  have hu61:=Try.underlying61
  have hrt:=hr_.out
  subst hrt
  unfold laws_FnExactDropAt.f at h
  replace h:=bE h;obtain ⟨t,hT,h⟩:=h
  by_cases ht : t < 0
  · have k0:=decide_eq_true ht
    go_enter Try.func9,Try.ntmps9
    go_wp2_with (first | (go_at_call 32;go_loud ((with_reducible refine (laws_szStore.calls k a0_0 a0_1 _ _ l0_2 1048576 t _ ?s1 hc0_2 hT).mono ?_);(case s1 => exact Kd.C_below hr0_2 (fZ BA.out BZ.out));rintro e w2 ⟨rfl,hb⟩;replace BZ:=aS (fZ BZ.out hb);clear hb;skip;refine zz3 (blk_below KA.out BZ.out) ?_;intros)) | ((with_reducible refine gD 3 rfl ?_);go_loud (refine bY #[.int .i64 a0_0,.int .i64 a0_1,.slice A0_2 l0_2.length c0_2] 56 ?_;intro ga hg_ w1 hbx hb;have BA:=aS hb;have KA:=aS hbx;have Lga:=aS (Nat.le_of_eq hg_.symm : w.heap.size ≤ ga);clear hg_ hb hbx;have BZ:=aS (Below.refl w1.heap.size w1);refine zz3 KA.out ?_;intros)))
    go_ret
    exact ⟨rfl,fZ BA.out BZ.out⟩
  · have k0:=decide_eq_false ht
    rw [if_neg ht] at h
    replace h:=bE h;obtain ⟨⟨x1,x2,lX⟩,hX,h⟩:=h
    dsimp only at h
    replace h:=bE h;obtain ⟨⟨r1,r2,lW,r4,r5⟩,hV,h⟩:=h
    dsimp only at h
    replace h:=bE h;obtain ⟨⟨g1,g2,lG,g4,g5⟩,hG,h⟩:=h
    dsimp only at h
    replace h:=bE h;obtain ⟨b1,hb1,h⟩:=h
    replace h:=bE h;obtain ⟨b3,hb3,h⟩:=h
    by_cases hbb : b1 = true ∧ g4 = r4 ∧ g5 = r5 ∧ b3 = true
    rotate_left
    · rw [if_neg hbb] at h;exact absurd h (by simp)
    · rw [if_pos hbb] at h
      obtain ⟨rfl,rfl,rfl,rfl⟩:=hbb
      replace h:=bE h;obtain ⟨⟨K1,K2⟩,hK,h⟩:=h
      replace h:=bE h;obtain ⟨⟨M1,M2⟩,hM,h⟩:=h
      replace h:=bE h;obtain ⟨q1,hq1,h⟩:=h
      dsimp only at hq1 h
      by_cases hqq : 0 ≤ K1 ∧ 0 ≤ q1 ∧ q1 = M1
      rotate_left
      · rw [if_neg hqq] at h;exact absurd h (by simp)
      · clear h
        go_enter Try.func9,Try.ntmps9
        go_upto_region 6 with (first | ((with_reducible refine gD 8 rfl ?_);go_loud (refine bY #[.int .i64 0,.int .i64 0,.slice none 0 0] 61 ?_;intro gw0 hg_ w5 hbx hb;have Lgw0:=aS (Nat.le_trans (below_size (fZ BA.out BZ.out)) (Nat.le_of_eq hg_.symm));obtain ⟨lt_gagw0,A_gw0ga,A_gagw0,n_gw0ga,n_gagw0⟩:=fNe hg_ (blk_lt (blk_below KA.out BZ.out));rw [← hg_] at RW;replace BZ:=aS (fZ BZ.out hb);replace RW:=aS (fNb RW.out hb);have Kgw0:=aS hbx;clear hg_ hb hbx;skip;refine zz3 (blk_below KA.out BZ.out) ?_;intros;refine zz3 Kgw0.out ?_;intros)) | (go_at_call 42;go_loud ((with_reducible refine (spec_DropAt.calls k x1 x2 (fun k_ => k_ < _) _ _ lX a1 a2 r1 r2 lW g4 g5 _ (fV RT.out) hV).mono ?_);rintro e w4 ⟨vW,rfl,hW4,hb⟩;have hle_:=below_size (fZ BA.out BZ.out);replace BZ:=aS (fZ BZ.out hb);have RW:=aS (Kd.N_lower (fNlt hW4) hle_);obtain ⟨AW,cW,rfl⟩:=Kd.N_slice hW4;clear hW4 RT;clear hle_;clear hb;skip;refine zz3 (blk_below KA.out BZ.out) ?_;intros)) | (go_at_call 34;go_loud ((with_reducible refine (laws_toStore.calls k a0_0 a0_1 _ _ l0_2 x1 x2 lX _ ?s1 hc0_2 hX).mono ?_);(case s1 => exact Kd.C_below hr0_2 (fZ BA.out BZ.out));rintro e w3 ⟨vT,rfl,hT3,hb⟩;replace BZ:=aS (fZ BZ.out hb);have RT:=aS hT3;obtain ⟨AT,cT,rfl⟩:=Kd.S_slice hT3;clear hT3;clear hb;skip;refine zz3 (blk_below KA.out BZ.out) ?_;intros)) | (go_at_call 32;go_loud ((with_reducible refine (laws_szStore.calls k a0_0 a0_1 _ _ l0_2 1048576 t _ ?s1 hc0_2 hT).mono ?_);(case s1 => exact Kd.C_below hr0_2 (fZ BA.out BZ.out));rintro e w2 ⟨rfl,hb⟩;replace BZ:=aS (fZ BZ.out hb);clear hb;skip;refine zz3 (blk_below KA.out BZ.out) ?_;intros)) | ((with_reducible refine gD 3 rfl ?_);go_loud (refine bY #[.int .i64 a0_0,.int .i64 a0_1,.slice A0_2 l0_2.length c0_2] 56 ?_;intro ga hg_ w1 hbx hb;have BA:=aS hb;have KA:=aS hbx;have Lga:=aS (Nat.le_of_eq hg_.symm : w.heap.size ≤ ga);clear hg_ hb hbx;have BZ:=aS (Below.refl w1.heap.size w1);refine zz3 KA.out ?_;intros)))
        refine fW (fun W => Aside0 (Below w.heap.size w W) ∧ Aside0 (bB W 56 ga a0_0 a0_1 A0_2 l0_2.length c0_2) ∧ Aside0 (bB W 61 gw0 r1 r2 AW lW.length cW) ∧ Aside0 (rN w W (fun k_ => k_ < gw0) AW cW lW)) ?_ ?_
        · exact ⟨⟨by (repeat (refine below_set ?_ (by first | exact Lgw0.out)));exact (fZ BA.out BZ.out)⟩,⟨oP (blk_below KA.out BZ.out)⟩,⟨oP Kgw0.out⟩,⟨fNp (g:=gw0) (g':=gw0) RW.out (fun k_ hk_ => by have:=hk_;omega)⟩⟩
        clear BA KA Kgw0 RW BZ
        intro w7 ⟨BA,KA,Kgw0,RW⟩
        have BZ:=aS (Below.refl w7.heap.size w7)
        refine zz3 KA.out ?_;intros
        have Lw7:=aS (blk_lt Kgw0.out)
        go_upto_region 7 with (first | ((with_reducible refine gD 11 rfl ?_);go_loud (refine bY #[.int .i64 0,.int .i64 0,.slice none 0 0] 61 ?_;intro gx hg_ w9 hbx hb;have Lgx:=aS (Nat.le_trans (below_size (fZ BA.out BZ.out)) (Nat.le_of_eq hg_.symm));obtain ⟨lt_gagx,A_gxga,A_gagx,n_gxga,n_gagx⟩:=fNe hg_ (blk_lt (blk_below KA.out BZ.out));obtain ⟨lt_gw0gx,A_gxgw0,A_gw0gx,n_gxgw0,n_gw0gx⟩:=fNe hg_ (blk_lt (blk_below Kgw0.out BZ.out));rw [← hg_] at RX LD;replace BZ:=aS (fZ BZ.out hb);replace RX:=aS (fSb RX.out hb);have Kgx:=aS hbx;clear hg_ hb hbx;skip;refine zz3 Kgx.out ?_;intros)) | (go_at_call 34;go_loud ((with_reducible refine (laws_toStore.calls k a0_0 a0_1 _ _ l0_2 x1 x2 lX _ ?s1 hc0_2 hX).mono ?_);(case s1 => exact Kd.C_below hr0_2 (fZ BA.out BZ.out));rintro e w8 ⟨vX,rfl,hT3,hb⟩;replace BZ:=aS (fZ BZ.out hb);have RX:=aS (fS_low (fS_mono (fS_win hT3) (fun k_ hk_ => (⟨hk_.2.1,hk_.2.2⟩ : w7.heap.size ≤ k_ ∧ k_ < w8.heap.size))) (below_size BA.out));have LD:=aS hb.size;obtain ⟨AX,cX,rfl⟩:=Kd.S_slice hT3;clear hT3;clear hb;skip)))
        have Lgx7:=aS (Nat.lt_of_lt_of_le Lw7.out LD.out)
        generalize w7.heap.size = nD at RX LD Lw7
        refine fW (fun W => Aside0 (Below w.heap.size w W) ∧ Aside0 (bB W 56 ga a0_0 a0_1 A0_2 l0_2.length c0_2) ∧ Aside0 (bB W 61 gw0 r1 r2 AW lW.length cW) ∧ Aside0 (bB W 61 gx x1 x2 AX lX.length cX) ∧ Aside0 (rN w W (fun k_ => k_ < gw0) AW cW lW) ∧ Aside0 (rS w W (fun k_ => nD ≤ k_ ∧ k_ < gx) AX cX lX)) ?_ ?_
        · exact ⟨⟨by (repeat (refine below_set ?_ (by first | exact Lgx.out)));exact (fZ BA.out BZ.out)⟩,⟨oP (blk_below KA.out BZ.out)⟩,⟨oP (blk_below Kgw0.out BZ.out)⟩,⟨oP Kgx.out⟩,⟨fNp (g:=gx) (g':=gx) (fNb RW.out BZ.out) (fun k_ hk_ => by have:=hk_;have:=Lgx7.out;omega)⟩,⟨fSp (g:=gx) (g':=gx) RX.out (fun k_ hk_ => by have:=hk_;omega)⟩⟩
        clear BA KA Kgw0 Kgx RW RX BZ
        intro w10 ⟨BA,KA,Kgw0,Kgx,RW,RX⟩
        have BZ:=aS (Below.refl w10.heap.size w10)
        have Lw10:=aS (blk_lt Kgx.out)
        refine zz3 Kgx.out ?_;intros
        go_upto_region 8 with (first | ((with_reducible refine gD 12 rfl ?_);go_loud (refine bY #[.int .i64 0,.int .i64 0,.slice none 0 0] 61 ?_;intro gg0 hg_ w12 hbx hb;have Lgg0:=aS (Nat.le_trans (below_size (fZ BA.out BZ.out)) (Nat.le_of_eq hg_.symm));obtain ⟨lt_gagg0,A_gg0ga,A_gagg0,n_gg0ga,n_gagg0⟩:=fNe hg_ (blk_lt (blk_below KA.out BZ.out));obtain ⟨lt_gw0gg0,A_gg0gw0,A_gw0gg0,n_gg0gw0,n_gw0gg0⟩:=fNe hg_ (blk_lt (blk_below Kgw0.out BZ.out));obtain ⟨lt_gxgg0,A_gg0gx,A_gxgg0,n_gg0gx,n_gxgg0⟩:=fNe hg_ (blk_lt (blk_below Kgx.out BZ.out));rw [← hg_] at RG LF;replace BZ:=aS (fZ BZ.out hb);replace RG:=aS (fSb RG.out hb);have Kgg0:=aS hbx;clear hg_ hb hbx;skip;refine zz3 Kgg0.out ?_;intros)) | (go_at_call 43;go_loud ((with_reducible refine (impl_DropAt.calls k x1 x2 _ _ lX a1 a2 g1 g2 lG g4 g5 _ (Kd.S_reads' (fSb RX.out BZ.out)).2.2 (Kd.S_reads' (fSb RX.out BZ.out)).2.1 hG).mono ?_);rintro e w11 ⟨vG,rfl,hG4,hb⟩;replace BZ:=aS (fZ BZ.out hb);have RG:=aS (fS_low (fS_mono (fS_win hG4) (fun k_ hk_ => (⟨hk_.2.1,hk_.2.2⟩ : w10.heap.size ≤ k_ ∧ k_ < w11.heap.size))) (below_size BA.out));have LF:=aS hb.size;obtain ⟨AG,cG,rfl⟩:=Kd.S_slice hG4;clear hG4;clear hb;skip)))
        have Lgg:=aS (Nat.lt_of_lt_of_le Lw10.out LF.out)
        generalize w10.heap.size = nF at RG LF Lw10
        refine fW (fun W => Aside0 (Below w.heap.size w W) ∧ Aside0 (bB W 56 ga a0_0 a0_1 A0_2 l0_2.length c0_2) ∧ Aside0 (bB W 61 gw0 r1 r2 AW lW.length cW) ∧ Aside0 (bB W 61 gx x1 x2 AX lX.length cX) ∧ Aside0 (bB W 61 gg0 g1 g2 AG lG.length cG) ∧ Aside0 (rN w W (fun k_ => k_ < gw0) AW cW lW) ∧ Aside0 (rS w W (fun k_ => nD ≤ k_ ∧ k_ < gx) AX cX lX) ∧ Aside0 (rS w W (fun k_ => nF ≤ k_ ∧ k_ < gg0) AG cG lG)) ?_ ?_
        · exact ⟨⟨by (repeat (refine below_set ?_ (by first | exact Lgg0.out)));exact (fZ BA.out BZ.out)⟩,⟨oP (blk_below KA.out BZ.out)⟩,⟨oP (blk_below Kgw0.out BZ.out)⟩,⟨oP (blk_below Kgx.out BZ.out)⟩,⟨oP Kgg0.out⟩,⟨fNp (g:=gg0) (g':=gg0) (fNb RW.out BZ.out) (fun k_ hk_ => by have:=hk_;have:=Lgx7.out;have:=Lgg.out;omega)⟩,⟨fSp (g:=gg0) (g':=gg0) (fSb RX.out BZ.out) (fun k_ hk_ => by have:=hk_;have:=Lgx7.out;have:=Lgg.out;omega)⟩,⟨fSp (g:=gg0) (g':=gg0) RG.out (fun k_ hk_ => by have:=hk_;have:=Lgx7.out;have:=Lgg.out;omega)⟩⟩
        clear BA KA Kgw0 Kgx Kgg0 RW RX RG BZ
        intro w14 ⟨BA,KA,Kgw0,Kgx,Kgg0,RW,RX,RG⟩
        have BZ:=aS (Below.refl w14.heap.size w14)
        refine zz3 Kgg0.out ?_;intros;refine zz3 Kgw0.out ?_;intros
        go_upto_region 10 with (first | (go_at_call 36;go_loud ((with_reducible refine (laws_eqStore.calls k g1 g2 _ _ lG r1 r2 _ _ lW true _ (Kd.S_reads' (fSb RG.out BZ.out)).2.2 (Kd.S_reads' (fSb RG.out BZ.out)).2.1 (Kd.N_reads' (fNb RW.out BZ.out)).2.2 (Kd.N_reads' (fNb RW.out BZ.out)).2.1 hb1).mono ?_);rintro e w15 ⟨rfl,hb⟩;replace BZ:=aS (fZ BZ.out hb);clear hb;skip)))
        replace BZ:=aS (below_drew1 BZ.out)
        have Kgx':=aS (blk_below Kgx.out BZ.out)
        have KA':=aS (blk_below KA.out BZ.out)
        refine start_ (n:=5) (S:=fun w' => w'.cell? ⟨gx,0,none⟩ = some (.int .i64 x1) ∧ w'.cell? ⟨gx,1,none⟩ = some (.int .i64 x2) ∧ w'.cell? ⟨gx,2,none⟩ = some (.slice AX lX.length cX) ∧ w'.cell? ⟨ga,0,none⟩ = some (.int .i64 a0_0) ∧ w'.cell? ⟨ga,1,none⟩ = some (.int .i64 a0_1) ∧ w'.cell? ⟨ga,2,none⟩ = some (.slice A0_2 l0_2.length c0_2)) (ds:=[]) (bA 5 0) (by kernel_rfl) rfl rfl ⟨xc Kgx',xc Kgx',xc Kgx',xc KA',xc KA',xc KA'⟩ (fun hHeld => ?_)
        clear Kgx' KA'
        generalize w15.drew = w17 at BZ hHeld ⊢
        refine tB 0 59 1 ?_
        refine tB 1 60 3 ?_
        refine oneB 2 61 7 fun K hK => ?_
        refine goesS Try.func34 #[.agg #[.int .i64 a0_0,.int .i64 a0_1,.slice A0_2 l0_2.length c0_2]] ?_
        with_reducible refine (laws_toStore.calls k a0_0 a0_1 _ _ l0_2 x1 x2 lX _ ?s1 hc0_2 hX).mono ?_
        case s1 => exact Kd.C_below hr0_2 (fZ BA.out BZ.out)
        rintro e w18 ⟨vY,rfl,hT3,hb⟩
        refine ⟨_,rfl,?_⟩
        replace BZ:=aS (fZ BZ.out hb)
        have RY:=aS hT3
        obtain ⟨AY,cY,rfl⟩:=Kd.S_slice hT3
        clear hT3 hb
        refine hK.out _ _ (czc3 (blk_below Kgx.out BZ.out) (cz3 (blk_below KA.out BZ.out))) (fun hHeld => ?_)
        clear hK K
        refine norm_ (a':=?_) ?_ ?_
        rotate_left
        · show Act.put _ (some 61) _ = _;go_frame;(try simp only [i64_w,i32_w]);rfl
        refine oneB 3 62 15 fun K hK => ?_
        refine goesS Try.func36 #[.agg #[.int .i64 x1,.int .i64 x2,.slice AX lX.length cX],.agg #[.int .i64 x1,.int .i64 x2,.slice AY lX.length cY]] ?_
        with_reducible refine (laws_eqStore.calls k x1 x2 _ _ lX x1 x2 _ _ lX true _ (Kd.S_reads' (fSb RX.out BZ.out)).2.2 (Kd.S_reads' (fSb RX.out BZ.out)).2.1 (Kd.S_reads' RY.out).2.2 (Kd.S_reads' RY.out).2.1 hb3).mono ?_
        rintro e w19 ⟨rfl,hb⟩
        refine ⟨_,rfl,?_⟩
        replace BZ:=aS (fZ BZ.out hb)
        clear hb RY
        refine hK.out _ _ (czc3 (blk_below Kgx.out BZ.out) (cz3 (blk_below KA.out BZ.out))) (fun hHeld => ?_)
        clear hK K
        refine norm_ (a':=?_) ?_ ?_
        rotate_left
        · show Act.put _ (some 62) _ = _;go_frame;(try simp only [i64_w,i32_w]);rfl
        refine pB 4 63 31 ?_
        refine done_ (by kernel_rfl) ?_
        clear hHeld
        refine zz3 (blk_below Kgx.out BZ.out) ?_;intros
        have LN:=aS (And.intro lt_gagw0.out (And.intro Lw7.out (And.intro LD.out (And.intro Lw10.out LF.out))))
        have kK:=decide_eq_false (show ¬ K1 < 0 from fun h_ => absurd hqq.1 (by omega))
        go_upto_region 14 with (first | (go_at_call 39;go_loud ((with_reducible refine (laws_markStore.calls k x1 x2 (fun k_ => nD ≤ k_ ∧ k_ < gx) AX cX lX 1 K1 K2 w _ (fZ BA.out BZ.out) (fSb RX.out BZ.out) hK).mono ?_);rintro e w20 ⟨rfl,hS,hb,hkp⟩;clear hS RX Kgx;replace BA:=aS hb;replace KA:=aS (blk_kept (blk_below KA.out BZ.out) hkp (fun h_ => by have h2_ : nD ≤ ga ∧ ga < gx:=h_;have:=LN.out;omega));replace Kgw0:=aS (blk_kept (blk_below Kgw0.out BZ.out) hkp (fun h_ => by have h2_ : nD ≤ gw0 ∧ gw0 < gx:=h_;have:=LN.out;omega));replace Kgg0:=aS (blk_kept (blk_below Kgg0.out BZ.out) hkp (fun h_ => by have h2_ : nD ≤ gg0 ∧ gg0 < gx:=h_;have:=LN.out;omega));replace RW:=aS (Kd.N_step (fNb RW.out BZ.out) (fun k_ hk_ hl_ => hkp.2 k_ hl_ (fun h_ => by have h1_ : k_ < gw0:=hk_;have h2_ : nD ≤ k_ ∧ k_ < gx:=h_;have:=LN.out;omega)));replace RG:=aS (fS_step (fSb RG.out BZ.out) (fun k_ hk_ _ hl_ => hkp.2 k_ hl_ (fun h_ => by have h1_ : nF ≤ k_ ∧ k_ < gg0:=hk_;have h2_ : nD ≤ k_ ∧ k_ < gx:=h_;have:=LN.out;omega)));replace BZ:=aS (Below.refl w20.heap.size w20);clear hb hkp;skip;refine zz3 (blk_below Kgg0.out BZ.out) ?_;intros;refine zz3 (blk_below Kgw0.out BZ.out) ?_;intros)))
        go_upto_region 17 with (first | (go_at_call 36;go_loud ((with_reducible refine (laws_eqStore.calls k g1 g2 _ _ lG r1 r2 _ _ lW true _ (Kd.S_reads' (fSb RG.out BZ.out)).2.2 (Kd.S_reads' (fSb RG.out BZ.out)).2.1 (Kd.N_reads' (fNb RW.out BZ.out)).2.2 (Kd.N_reads' (fNb RW.out BZ.out)).2.1 hb1).mono ?_);rintro e w21 ⟨rfl,hb⟩;replace BZ:=aS (fZ BZ.out hb);clear hb;skip;refine zz3 (blk_below Kgg0.out BZ.out) ?_;intros)))
        go_upto_region 19 with (first | (go_at_call 39;go_loud ((with_reducible refine (laws_markStore.calls k g1 g2 (fun k_ => nF ≤ k_ ∧ k_ < gg0) AG cG lG 1 M1 M2 w _ (fZ BA.out BZ.out) (fSb RG.out BZ.out) hM).mono ?_);rintro e w23 ⟨rfl,hS,hb,hkp⟩;replace BA:=aS hb;replace KA:=aS (blk_kept (blk_below KA.out BZ.out) hkp (fun h_ => by have h2_ : nF ≤ ga ∧ ga < gg0:=h_;have:=LN.out;omega));replace Kgw0:=aS (blk_kept (blk_below Kgw0.out BZ.out) hkp (fun h_ => by have h2_ : nF ≤ gw0 ∧ gw0 < gg0:=h_;have:=LN.out;omega));replace Kgg0:=aS (blk_kept (blk_below Kgg0.out BZ.out) hkp (fun h_ => by have h2_ : nF ≤ gg0 ∧ gg0 < gg0:=h_;have:=LN.out;omega));replace RW:=aS (Kd.N_step (fNb RW.out BZ.out) (fun k_ hk_ hl_ => hkp.2 k_ hl_ (fun h_ => by have h1_ : k_ < gw0:=hk_;have h2_ : nF ≤ k_ ∧ k_ < gg0:=h_;have:=LN.out;omega)));replace RG:=aS (fS_mono hS (fun k_ _ => trivial : ∀ k_,_ → (fun _ => True) k_));have lenG:=aS (Kd.S_reads' hS).1;replace BZ:=aS (Below.refl w23.heap.size w23);clear hS hb hkp;rw [lenG.out] at Kgg0 RG;skip;refine zz3 (blk_below Kgg0.out BZ.out) ?_;intros)))
        have kq1:=decide_eq_false (show ¬ q1 < 0 from fun h_ => absurd hqq.2.1 (by omega))
        have kqN:=bne_eq_false_iff_eq.mpr hqq.2.2
        go_upto_region 24 with (first | (go_at_call 40;go_loud ((with_reducible refine (laws_heldStore.calls k g1 g2 _ _ M2 1 q1 _ (Kd.S_reads' (fSb RG.out BZ.out)).2.2 (Kd.S_reads' (fSb RG.out BZ.out)).2.1 hq1).mono ?_);rintro e w25 ⟨rfl,hb⟩;replace BZ:=aS (fZ BZ.out hb);clear hb;skip;refine zz3 (blk_below KA.out BZ.out) ?_;intros)))
        replace RW:=aS (fNlt (fNb RW.out BZ.out))
        replace RG:=aS (fSlt (fSb RG.out BZ.out))
        replace BA:=aS (fZ BA.out BZ.out)
        replace KA:=aS (blk_below KA.out BZ.out)
        replace Kgw0:=aS (blk_below Kgw0.out BZ.out)
        replace Kgg0:=aS (blk_below Kgg0.out BZ.out)
        replace BZ:=aS (Below.refl w25.heap.size w25)
        go_upto_region 25 with (first | ((with_reducible refine gD 18 rfl ?_);go_loud (refine bY #[.int .i64 0,.int .i64 0,.slice none 0 0] 61 ?_;intro gh0 hg_ w29 hbx hb;have Lgh0:=aS (Nat.le_trans (below_size (fZ BA.out BZ.out)) (Nat.le_of_eq hg_.symm));obtain ⟨lt_gagh0,A_gh0ga,A_gagh0,n_gh0ga,n_gagh0⟩:=fNe hg_ (blk_lt (blk_below KA.out BZ.out));obtain ⟨lt_gw0gh0,A_gh0gw0,A_gw0gh0,n_gh0gw0,n_gw0gh0⟩:=fNe hg_ (blk_lt (blk_below Kgw0.out BZ.out));obtain ⟨lt_gg0gh0,A_gh0gg0,A_gg0gh0,n_gh0gg0,n_gg0gh0⟩:=fNe hg_ (blk_lt (blk_below Kgg0.out BZ.out));rw [← hg_] at RH LH;replace BZ:=aS (fZ BZ.out hb);replace RH:=aS (fSb RH.out hb);have Kgh0:=aS hbx;clear hg_ hb hbx;skip;refine zz3 (blk_below Kgw0.out BZ.out) ?_;intros;refine zz3 Kgh0.out ?_;intros)) | (go_at_call 43;go_loud ((with_reducible refine (impl_DropAt.calls k x1 x2 _ _ lX a1 a2 g1 g2 lG g4 g5 _ (Kd.S_reads' RT.out).2.2 (Kd.S_reads' RT.out).2.1 hG).mono ?_);rintro e w28 ⟨vG2,rfl,hG4,hb⟩;have hle_:=below_size (fZ BA.out BZ.out);replace BZ:=aS (fZ BZ.out hb);have RH:=aS (fS_low (fSlt hG4) hle_);have LH:=aS BZ.out.size;obtain ⟨AH,cH,rfl⟩:=Kd.S_slice hG4;clear hG4 RT;clear hle_;clear hb;skip)) | (go_at_call 34;go_loud ((with_reducible refine (laws_toStore.calls k a0_0 a0_1 _ _ l0_2 x1 x2 lX _ ?s1 hc0_2 hX).mono ?_);(case s1 => exact Kd.C_below hr0_2 (fZ BA.out BZ.out));rintro e w27 ⟨vT2,rfl,hT3,hb⟩;replace BZ:=aS (fZ BZ.out hb);have RT:=aS hT3;obtain ⟨AT2,cT2,rfl⟩:=Kd.S_slice hT3;clear hT3;clear hb;skip)))
        generalize w25.heap.size = nH at RW RG LH
        refine fW (fun W => Aside0 (Below w.heap.size w W) ∧ Aside0 (bB W 56 ga a0_0 a0_1 A0_2 l0_2.length c0_2) ∧ Aside0 (bB W 61 gw0 r1 r2 AW lW.length cW) ∧ Aside0 (bB W 61 gg0 g1 g2 AG M2.length cG) ∧ Aside0 (bB W 61 gh0 g1 g2 AH lG.length cH) ∧ Aside0 (rN w W (fun k_ => k_ < nH) AW cW lW) ∧ Aside0 (rS w W (fun k_ => k_ < nH) AG cG M2) ∧ Aside0 (rS w W (fun k_ => k_ < gh0) AH cH lG)) ?_ ?_
        · exact ⟨⟨by (repeat (refine below_set ?_ (by first | exact Lgh0.out)));exact (fZ BA.out BZ.out)⟩,⟨oP (blk_below KA.out BZ.out)⟩,⟨oP (blk_below Kgw0.out BZ.out)⟩,⟨oP (blk_below Kgg0.out BZ.out)⟩,⟨oP Kgh0.out⟩,⟨fNp (g:=gh0) (g':=gh0) (fNb RW.out BZ.out) (fun k_ hk_ => by have:=hk_;have:=LH.out;omega)⟩,⟨fSp (g:=gh0) (g':=gh0) (fSb RG.out BZ.out) (fun k_ hk_ => by have:=hk_;have:=LH.out;omega)⟩,⟨fSp (g:=gh0) (g':=gh0) RH.out (fun k_ hk_ => by have:=hk_;have:=LH.out;omega)⟩⟩
        clear BA KA Kgw0 Kgg0 Kgh0 RW RG RH BZ
        intro w31 ⟨BA,KA,Kgw0,Kgg0,Kgh0,RW,RG,RH⟩
        have BZ:=aS (Below.refl w31.heap.size w31)
        refine zz3 Kgh0.out ?_;intros;refine zz3 Kgw0.out ?_;intros
        go_upto_region 27 with (first | (go_at_call 36;go_loud ((with_reducible refine (laws_eqStore.calls k g1 g2 _ _ lG r1 r2 _ _ lW true _ (Kd.S_reads' (fSb RH.out BZ.out)).2.2 (Kd.S_reads' (fSb RH.out BZ.out)).2.1 (Kd.N_reads' (fNb RW.out BZ.out)).2.2 (Kd.N_reads' (fNb RW.out BZ.out)).2.1 hb1).mono ?_);rintro e w32 ⟨rfl,hb⟩;replace BZ:=aS (fZ BZ.out hb);clear hb;skip;refine zz3 (blk_below Kgg0.out BZ.out) ?_;intros)))
        go_wp2_with (first | (go_at_call 40;go_loud ((with_reducible refine (laws_heldStore.calls k g1 g2 _ _ M2 1 q1 _ (Kd.S_reads' (fSb RG.out BZ.out)).2.2 (Kd.S_reads' (fSb RG.out BZ.out)).2.1 hq1).mono ?_);rintro e w34 ⟨rfl,hb⟩;replace BZ:=aS (fZ BZ.out hb);clear hb;skip)))
        go_ret
        exact ⟨rfl,(fZ BA.out BZ.out)⟩
end Go.Proofs.Ytjnifnhpnccpcaa.H
