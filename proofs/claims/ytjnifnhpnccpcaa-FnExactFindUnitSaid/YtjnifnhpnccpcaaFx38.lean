-- Made by this session's program gprint.py out of the translation. Not trusted: Lean checks it.
import Derived.Test.YtjnifnhpnccpcaaFx0
import Derived.Test.YtjnifnhpnccpcaaFx4
import Derived.Test.YtjnifnhpnccpcaaFx6
import Derived.Test.YtjnifnhpnccpcaaFx7
import Derived.Test.YtjnifnhpnccpcaaFx8
import Derived.Test.YtjnifnhpnccpcaaFx20
import Derived.Test.YtjnifnhpnccpcaaFx35
import Derived.Test.YtjnifnhpnccpcaaFx36
import Derived.Test.YtjnifnhpnccpcaaFx37
namespace Go.Proofs.Ytjnifnhpnccpcaa.F
open Go.RowKit Go.Proofs.YtjnifnhpnccpcaaW.PrintWords Go.Proofs.YtjnifnhpnccpcaaW.PrintLast Go.Proofs.YtjnifnhpnccpcaaW.PrintMore
attribute [local go_sem] max2_int min2_int max_two min_two max_three min_three max_four min_four
set_option linter.unusedVariables false
set_option linter.unusedSimpArgs false
section
variable {α : Type} {d : Kd α} {e : Nat} {w w1 : World} {base : Nat} {ok : Nat → Prop} {v : Value} {xs : List α}
theorem fS_step (h : Kd.S d e w base ok v xs) (hm : ∀ k,ok k → base ≤ k → k < w.heap.size → w1.heap[k]? = w.heap[k]?) : Kd.S d e w1 base ok v xs:=by
  obtain ⟨f,h⟩:=h
  exact ⟨f,Kd.R_mono (Kd.R_step (Kd.R_bound h) (fun k hk hlt => hm k hk.1 hk.2.1 hlt)) (fun _ hk => hk.1)⟩
theorem fR_step (h : d.R e w base ok v xs) (hm : ∀ k,ok k → base ≤ k → k < w.heap.size → w1.heap[k]? = w.heap[k]?) : d.R e w1 base ok v xs :=
  Kd.R_mono (Kd.R_step (Kd.R_bound h) (fun k hk hlt => hm k hk.1 hk.2.1 hlt)) (fun _ hk => hk.1)
theorem fS_win (h : Kd.S d e w base ok v xs) : Kd.S d e w base (fun k => ok k ∧ base ≤ k ∧ k < w.heap.size) v xs:=by
  obtain ⟨f,h⟩:=h
  exact ⟨f,Kd.R_mono (Kd.R_bound h) (fun k hk => ⟨hk.1,hk.2.1,hk.2.2.1⟩)⟩
theorem fR_win (h : d.R e w base ok v xs) : d.R e w base (fun k => ok k ∧ base ≤ k ∧ k < w.heap.size) v xs:=Kd.R_mono (Kd.R_bound h) (fun k hk => ⟨hk.1,hk.2.1,hk.2.2.1⟩)
theorem fS_low {b' : Nat} (h : Kd.S d e w base ok v xs) (hb : b' ≤ base) : Kd.S d e w b' ok v xs:=by
  obtain ⟨f,h⟩:=h
  exact ⟨f,Kd.R_lower h hb⟩
theorem fS_mono {ok' : Nat → Prop} (h : Kd.S d e w base ok v xs) (hk : ∀ k,ok k → ok' k) : Kd.S d e w base ok' v xs:=by
  obtain ⟨f,h⟩:=h
  exact ⟨f,Kd.R_mono h hk⟩
end
theorem fR_ownlt {α : Type} {d : Kd α} {e : Nat} {w : World} {base : Nat} {ok : Nat → Prop} {v : Value} {xs : List α} (h : d.R e w base ok v xs) : ∀ k,some k = v.ownBlock → k < w.heap.size:=fun k hk => ((Kd.R_bound h).1 k hk.symm).2.2.1
theorem fNe {b g n : Nat} (hg : g = n) (h : b < n) : Aside0 (b < g) ∧ Aside0 (g ≠ b) ∧ Aside0 (b ≠ g) ∧ g ≠ b ∧ b ≠ g:=by subst hg;exact ⟨⟨h⟩,⟨Nat.ne_of_gt h⟩,⟨Nat.ne_of_lt h⟩,Nat.ne_of_gt h,Nat.ne_of_lt h⟩
theorem fSp {α : Type} {d : Kd α} {e : Nat} {w w1 : World} {base g g' : Nat} {ok : Nat → Prop} {v : Value} {xs : List α} (h : Kd.S d e w base ok v xs) (hk : ∀ k,ok k → k ≠ g ∧ k ≠ g') (s : Keep2 w w1 g g':=by repeat (with_reducible first | exact keep2_refl _ _ _ | apply keep2_put1 | apply keep2_put2 | apply keep2_drewN | apply keep2_drew)) : Kd.S d e w1 base ok v xs:=fS_step h (fun k h0 _ hl => s.2 k hl (hk k h0).1 (hk k h0).2)
theorem fRp {α : Type} {d : Kd α} {e : Nat} {w w1 : World} {base g g' : Nat} {ok : Nat → Prop} {v : Value} {xs : List α} (h : d.R e w base ok v xs) (hk : ∀ k,ok k → k ≠ g ∧ k ≠ g') (s : Keep2 w w1 g g':=by repeat (with_reducible first | exact keep2_refl _ _ _ | apply keep2_put1 | apply keep2_put2 | apply keep2_drewN | apply keep2_drew)) : d.R e w1 base ok v xs:=fR_step h (fun k h0 _ hl => s.2 k hl (hk k h0).1 (hk k h0).2)
theorem fZ {w W W2 : World} (h : Below w.heap.size w W) (hb : Below W.heap.size W W2) : Below w.heap.size w W2:=h.trans (below_low' hb h.size)
theorem fSb {α : Type} {d : Kd α} {e : Nat} {w w1 : World} {base : Nat} {ok : Nat → Prop} {v : Value} {xs : List α} (h : Kd.S d e w base ok v xs) (hb : Below w.heap.size w w1) : Kd.S d e w1 base ok v xs:=fS_step h (fun k _ _ hl => hb.block k hl)
theorem fRb {α : Type} {d : Kd α} {e : Nat} {w w1 : World} {base : Nat} {ok : Nat → Prop} {v : Value} {xs : List α} (h : d.R e w base ok v xs) (hb : Below w.heap.size w w1) : d.R e w1 base ok v xs:=fR_step h (fun k _ _ hl => hb.block k hl)
theorem fSlt {α : Type} {d : Kd α} {e : Nat} {w : World} {base : Nat} {ok : Nat → Prop} {v : Value} {xs : List α} (h : Kd.S d e w base ok v xs) : Kd.S d e w base (fun k => k < w.heap.size) v xs:=fS_mono (fS_win h) (fun _ hk => hk.2.2)
theorem fRlt {α : Type} {d : Kd α} {e : Nat} {w : World} {base : Nat} {ok : Nat → Prop} {v : Value} {xs : List α} (h : d.R e w base ok v xs) : d.R e w base (fun k => k < w.heap.size) v xs:=Kd.R_mono (fR_win h) (fun _ hk => hk.2.2)
abbrev bB (W : World) (t g : Nat) (a b : Int) (A : Option Addr) (n c : Nat) : Prop:=W.heap[g]? = some (.cells #[.int .i64 a,.int .i64 b,.slice A n c] t (0,0))
abbrev rS (w W : World) (ok : Nat → Prop) (A : Option Addr) (c : Nat) (l : List S101) : Prop:=Kd.S k101 101 W w.heap.size ok (.slice A l.length c) l
abbrev rR (w W : World) (ok : Nat → Prop) (A : Option Addr) (c : Nat) (l : List S88) : Prop:=Kd.R k88 88 W w.heap.size ok (.slice A l.length c) l
theorem fW {P : Program} {c : Code} {Q : Exit → Act → World → Prop} {a : Act} {W : World} (F : World → Prop) (hF : F W) (h : ∀ W',F W' → c.wp P Q a W') : c.wp P Q a W:=h W hF
def laws_FnExactFindUnit.f (k : Nat) (a0_0 a0_1 : Int) (l0_2 : List S124) (a1 : Int) : Option Bool :=
  (laws_szStore.f k a0_0 a0_1 l0_2 1048576).bind fun t => if t < 0 then some true else
    (laws_toStore.f k a0_0 a0_1 l0_2).bind fun X => (spec_FindUnit.f k X.1 X.2.1 X.2.2 a1).bind fun V => (impl_FindUnit.f k X.1 X.2.1 X.2.2 a1).bind fun G =>
      (laws_eqStore.f k G.1 G.2.1 G.2.2.1 V.1 V.2.1 V.2.2.1).bind fun b1 => (laws_eqUnit.f k G.2.2.2.1 G.2.2.2.2.1 G.2.2.2.2.2.1 V.2.2.2.1 V.2.2.2.2.1 V.2.2.2.2.2.1).bind fun b2 => (laws_eqStore.f k X.1 X.2.1 X.2.2 X.1 X.2.1 X.2.2).bind fun b3 =>
        if b1 = true ∧ b2 = true ∧ G.2.2.2.2.2.2 = V.2.2.2.2.2.2 ∧ b3 = true then
          (laws_markStore.f k X.1 X.2.1 X.2.2 1).bind fun K => (laws_markStore.f k G.1 G.2.1 G.2.2.1 1).bind fun M => (laws_markUnit.f k G.2.2.2.1 G.2.2.2.2.1 G.2.2.2.2.2.1 M.1).bind fun N =>
            (laws_heldStore.f k G.1 G.2.1 M.2 1).bind fun q1 => (laws_heldUnit.f k G.2.2.2.1 G.2.2.2.2.1 N.2 q1).bind fun q2 =>
              if 0 ≤ K.1 ∧ 0 ≤ q1 ∧ 0 ≤ q2 ∧ q2 = N.1 then some true else none
        else none
set_option maxHeartbeats 8000000 in
set_option maxRecDepth 100000 in
theorem laws_FnExactFindUnit.calls (k : Nat) (a0_0 : Int) (a0_1 : Int) (A0_2 : Option Addr) (c0_2 : Nat) (l0_2 : List S124) (a1 : Int) (r : Bool) (hr_ : Aside0 (r = true)) (w : World) (hr0_2 : Kd.C k124 w A0_2 l0_2.length l0_2) (hc0_2 : l0_2.length ≤ c0_2) (h : laws_FnExactFindUnit.f k a0_0 a0_1 l0_2 a1 = some r) :
    Calls Try.prog 8 #[.agg #[.int .i64 a0_0,.int .i64 a0_1,.slice A0_2 l0_2.length c0_2],.int .i64 a1] w fun e w' => e = .returned (.bool r) ∧ Below w.heap.size w w':=by
  have hu56:=Try.underlying56
  have hu61:=Try.underlying61
  have hu41:=Try.underlying41
  have hrt:=hr_.out
  subst hrt
  unfold laws_FnExactFindUnit.f at h
  replace h:=bE h;obtain ⟨t,hT,h⟩:=h
  by_cases ht : t < 0
  · have k0:=decide_eq_true ht
    go_enter Try.func8,Try.ntmps8
    go_wp2_with (first | (go_at_call 32;go_loud ((with_reducible refine (laws_szStore.calls k a0_0 a0_1 _ _ l0_2 1048576 t _ ?s1 hc0_2 hT).mono ?_);(case s1 => exact Kd.C_below hr0_2 (fZ BA.out BZ.out));rintro e w2 ⟨rfl,hb⟩;replace BZ:=aS (fZ BZ.out hb);clear hb;skip;refine zz3 (blk_below KA.out BZ.out) ?_;intros)) | ((with_reducible refine gD 2 rfl ?_);go_loud (refine bY #[.int .i64 a0_0,.int .i64 a0_1,.slice A0_2 l0_2.length c0_2] 56 ?_;intro ga hg_ w1 hbx hb;have BA:=aS hb;have KA:=aS hbx;have Lga:=aS (Nat.le_of_eq hg_.symm : w.heap.size ≤ ga);clear hg_ hb hbx;have BZ:=aS (Below.refl w1.heap.size w1);refine zz3 KA.out ?_;intros)))
    go_ret
    exact ⟨rfl,fZ BA.out BZ.out⟩
  · have k0:=decide_eq_false ht
    rw [if_neg ht] at h
    replace h:=bE h;obtain ⟨⟨x1,x2,lX⟩,hX,h⟩:=h
    dsimp only at h
    replace h:=bE h;obtain ⟨⟨r1,r2,lW,r4,r5,lU,r7⟩,hV,h⟩:=h
    dsimp only at h
    replace h:=bE h;obtain ⟨⟨g1,g2,lG,g4,g5,lV,g7⟩,hG,h⟩:=h
    dsimp only at h
    replace h:=bE h;obtain ⟨b1,hb1,h⟩:=h
    replace h:=bE h;obtain ⟨b2,hb2,h⟩:=h
    replace h:=bE h;obtain ⟨b3,hb3,h⟩:=h
    by_cases hbb : b1 = true ∧ b2 = true ∧ g7 = r7 ∧ b3 = true
    rotate_left
    · rw [if_neg hbb] at h;exact absurd h (by simp)
    · rw [if_pos hbb] at h
      obtain ⟨rfl,rfl,rfl,rfl⟩:=hbb
      replace h:=bE h;obtain ⟨⟨K1,K2⟩,hK,h⟩:=h
      replace h:=bE h;obtain ⟨⟨M1,M2⟩,hM,h⟩:=h
      replace h:=bE h;obtain ⟨⟨N1,N2⟩,hN,h⟩:=h
      replace h:=bE h;obtain ⟨q1,hq1,h⟩:=h
      replace h:=bE h;obtain ⟨q2,hq2,h⟩:=h
      dsimp only at hN hq1 hq2 h
      by_cases hqq : 0 ≤ K1 ∧ 0 ≤ q1 ∧ 0 ≤ q2 ∧ q2 = N1
      rotate_left
      · rw [if_neg hqq] at h;exact absurd h (by simp)
      · clear h
        go_enter Try.func8,Try.ntmps8
        go_upto_region 6 with (first | ((with_reducible refine gD 7 rfl ?_);go_loud (refine bY #[.int .i64 0,.int .i64 0,.slice none 0 0] 41 ?_;intro gw1 hg_ w6 hbx hb;have Lgw1:=aS (Nat.le_trans (below_size (fZ BA.out BZ.out)) (Nat.le_of_eq hg_.symm));obtain ⟨lt_gagw1,A_gw1ga,A_gagw1,n_gw1ga,n_gagw1⟩:=fNe hg_ (blk_lt (blk_below KA.out BZ.out));obtain ⟨lt_gw0gw1,A_gw1gw0,A_gw0gw1,n_gw1gw0,n_gw0gw1⟩:=fNe hg_ (blk_lt Kgw0.out);replace BZ:=aS (fZ BZ.out hb);replace Kgw0:=aS (blk_below Kgw0.out hb);replace RU:=aS (fRb RU.out hb);replace RW:=aS (fSb RW.out hb);have Kgw1:=aS hbx;clear hg_ hb hbx;skip;refine zz3 (blk_below KA.out BZ.out) ?_;intros;refine zz3 Kgw0.out ?_;intros;refine zz3 Kgw1.out ?_;intros)) | ((with_reducible refine gD 6 rfl ?_);go_loud (refine bY #[.int .i64 0,.int .i64 0,.slice none 0 0] 61 ?_;intro gw0 hg_ w5 hbx hb;have Lgw0:=aS (Nat.le_trans (below_size (fZ BA.out BZ.out)) (Nat.le_of_eq hg_.symm));obtain ⟨lt_gagw0,A_gw0ga,A_gagw0,n_gw0ga,n_gagw0⟩:=fNe hg_ (blk_lt (blk_below KA.out BZ.out));rw [← hg_] at RW RU;replace BZ:=aS (fZ BZ.out hb);replace RU:=aS (fRb RU.out hb);replace RW:=aS (fSb RW.out hb);have Kgw0:=aS hbx;clear hg_ hb hbx;skip;refine zz3 (blk_below KA.out BZ.out) ?_;intros;refine zz3 Kgw0.out ?_;intros)) | (go_at_call 37;go_loud ((with_reducible refine (spec_FindUnit.calls k x1 x2 _ _ lX a1 r1 r2 lW r4 r5 lU g7 _ (Kd.S_reads' RT.out).2.2 (Kd.S_reads' RT.out).2.1 hV).mono ?_);rintro e w4 ⟨vW,vU,rfl,hW4,hU4,hb⟩;have hle_:=below_size (fZ BA.out BZ.out);replace BZ:=aS (fZ BZ.out hb);have RW:=aS (fS_low (fSlt hW4) hle_);have RU:=aS (Kd.R_lower (fRlt hU4) hle_);obtain ⟨AW,cW,rfl⟩:=Kd.S_slice hW4;obtain ⟨AU,cU,rfl⟩:=Kd.R_slice hU4;clear hW4 hU4 RT;clear hle_;clear hb;skip;refine zz3 (blk_below KA.out BZ.out) ?_;intros)) | (go_at_call 34;go_loud ((with_reducible refine (laws_toStore.calls k a0_0 a0_1 _ _ l0_2 x1 x2 lX _ ?s1 hc0_2 hX).mono ?_);(case s1 => exact Kd.C_below hr0_2 (fZ BA.out BZ.out));rintro e w3 ⟨vT,rfl,hT3,hb⟩;replace BZ:=aS (fZ BZ.out hb);have RT:=aS hT3;obtain ⟨AT,cT,rfl⟩:=Kd.S_slice hT3;clear hT3;clear hb;skip;refine zz3 (blk_below KA.out BZ.out) ?_;intros)) | (go_at_call 32;go_loud ((with_reducible refine (laws_szStore.calls k a0_0 a0_1 _ _ l0_2 1048576 t _ ?s1 hc0_2 hT).mono ?_);(case s1 => exact Kd.C_below hr0_2 (fZ BA.out BZ.out));rintro e w2 ⟨rfl,hb⟩;replace BZ:=aS (fZ BZ.out hb);clear hb;skip;refine zz3 (blk_below KA.out BZ.out) ?_;intros)) | ((with_reducible refine gD 2 rfl ?_);go_loud (refine bY #[.int .i64 a0_0,.int .i64 a0_1,.slice A0_2 l0_2.length c0_2] 56 ?_;intro ga hg_ w1 hbx hb;have BA:=aS hb;have KA:=aS hbx;have Lga:=aS (Nat.le_of_eq hg_.symm : w.heap.size ≤ ga);clear hg_ hb hbx;have BZ:=aS (Below.refl w1.heap.size w1);refine zz3 KA.out ?_;intros)))
        refine fW (fun W => Aside0 (Below w.heap.size w W) ∧ Aside0 (bB W 56 ga a0_0 a0_1 A0_2 l0_2.length c0_2) ∧ Aside0 (bB W 61 gw0 r1 r2 AW lW.length cW) ∧ Aside0 (bB W 41 gw1 r4 r5 AU lU.length cU) ∧ Aside0 (rS w W (fun k_ => k_ < gw0) AW cW lW) ∧ Aside0 (rR w W (fun k_ => k_ < gw0) AU cU lU)) ?_ ?_
        · exact ⟨⟨by (repeat (refine below_set ?_ (by first | exact Lgw0.out | exact Lgw1.out)));exact (fZ BA.out BZ.out)⟩,⟨oP (blk_below KA.out BZ.out)⟩,⟨oP Kgw0.out⟩,⟨oP Kgw1.out⟩,⟨fSp (g:=gw0) (g':=gw1) RW.out (fun k_ hk_ => by have:=hk_;have:=lt_gw0gw1.out;omega)⟩,⟨fRp (g:=gw0) (g':=gw1) RU.out (fun k_ hk_ => by have:=hk_;have:=lt_gw0gw1.out;omega)⟩⟩
        clear BA KA Kgw0 Kgw1 RW RU BZ
        intro w7 ⟨BA,KA,Kgw0,Kgw1,RW,RU⟩
        have BZ:=aS (Below.refl w7.heap.size w7)
        refine zz3 KA.out ?_;intros
        have Lw7:=aS (blk_lt Kgw1.out)
        go_upto_region 7 with (first | ((with_reducible refine gD 9 rfl ?_);go_loud (refine bY #[.int .i64 0,.int .i64 0,.slice none 0 0] 61 ?_;intro gx hg_ w9 hbx hb;have Lgx:=aS (Nat.le_trans (below_size (fZ BA.out BZ.out)) (Nat.le_of_eq hg_.symm));obtain ⟨lt_gagx,A_gxga,A_gagx,n_gxga,n_gagx⟩:=fNe hg_ (blk_lt (blk_below KA.out BZ.out));obtain ⟨lt_gw0gx,A_gxgw0,A_gw0gx,n_gxgw0,n_gw0gx⟩:=fNe hg_ (blk_lt (blk_below Kgw0.out BZ.out));obtain ⟨lt_gw1gx,A_gxgw1,A_gw1gx,n_gxgw1,n_gw1gx⟩:=fNe hg_ (blk_lt (blk_below Kgw1.out BZ.out));rw [← hg_] at RX LD;replace BZ:=aS (fZ BZ.out hb);replace RX:=aS (fSb RX.out hb);have Kgx:=aS hbx;clear hg_ hb hbx;skip;refine zz3 Kgx.out ?_;intros)) | (go_at_call 34;go_loud ((with_reducible refine (laws_toStore.calls k a0_0 a0_1 _ _ l0_2 x1 x2 lX _ ?s1 hc0_2 hX).mono ?_);(case s1 => exact Kd.C_below hr0_2 (fZ BA.out BZ.out));rintro e w8 ⟨vX,rfl,hT3,hb⟩;replace BZ:=aS (fZ BZ.out hb);have RX:=aS (fS_low (fS_mono (fS_win hT3) (fun k_ hk_ => (⟨hk_.2.1,hk_.2.2⟩ : w7.heap.size ≤ k_ ∧ k_ < w8.heap.size))) (below_size BA.out));have LD:=aS hb.size;obtain ⟨AX,cX,rfl⟩:=Kd.S_slice hT3;clear hT3;clear hb;skip)))
        have Lgx7:=aS (Nat.lt_of_lt_of_le Lw7.out LD.out)
        generalize w7.heap.size = nD at RX LD Lw7
        refine fW (fun W => Aside0 (Below w.heap.size w W) ∧ Aside0 (bB W 56 ga a0_0 a0_1 A0_2 l0_2.length c0_2) ∧ Aside0 (bB W 61 gw0 r1 r2 AW lW.length cW) ∧ Aside0 (bB W 41 gw1 r4 r5 AU lU.length cU) ∧ Aside0 (bB W 61 gx x1 x2 AX lX.length cX) ∧ Aside0 (rS w W (fun k_ => k_ < gw0) AW cW lW) ∧ Aside0 (rR w W (fun k_ => k_ < gw0) AU cU lU) ∧ Aside0 (rS w W (fun k_ => nD ≤ k_ ∧ k_ < gx) AX cX lX)) ?_ ?_
        · exact ⟨⟨by (repeat (refine below_set ?_ (by first | exact Lgx.out)));exact (fZ BA.out BZ.out)⟩,⟨oP (blk_below KA.out BZ.out)⟩,⟨oP (blk_below Kgw0.out BZ.out)⟩,⟨oP (blk_below Kgw1.out BZ.out)⟩,⟨oP Kgx.out⟩,⟨fSp (g:=gx) (g':=gx) (fSb RW.out BZ.out) (fun k_ hk_ => by have:=hk_;have:=lt_gw0gw1.out;have:=Lgx7.out;omega)⟩,⟨fRp (g:=gx) (g':=gx) (fRb RU.out BZ.out) (fun k_ hk_ => by have:=hk_;have:=lt_gw0gw1.out;have:=Lgx7.out;omega)⟩,⟨fSp (g:=gx) (g':=gx) RX.out (fun k_ hk_ => by have:=hk_;omega)⟩⟩
        clear BA KA Kgw0 Kgw1 Kgx RW RU RX BZ
        intro w10 ⟨BA,KA,Kgw0,Kgw1,Kgx,RW,RU,RX⟩
        have BZ:=aS (Below.refl w10.heap.size w10)
        have Lw10:=aS (blk_lt Kgx.out)
        refine zz3 Kgx.out ?_;intros
        go_upto_region 8 with (first | ((with_reducible refine gD 11 rfl ?_);go_loud (refine bY #[.int .i64 0,.int .i64 0,.slice none 0 0] 41 ?_;intro gg1 hg_ w13 hbx hb;have Lgg1:=aS (Nat.le_trans (below_size (fZ BA.out BZ.out)) (Nat.le_of_eq hg_.symm));obtain ⟨lt_gagg1,A_gg1ga,A_gagg1,n_gg1ga,n_gagg1⟩:=fNe hg_ (blk_lt (blk_below KA.out BZ.out));obtain ⟨lt_gw0gg1,A_gg1gw0,A_gw0gg1,n_gg1gw0,n_gw0gg1⟩:=fNe hg_ (blk_lt (blk_below Kgw0.out BZ.out));obtain ⟨lt_gw1gg1,A_gg1gw1,A_gw1gg1,n_gg1gw1,n_gw1gg1⟩:=fNe hg_ (blk_lt (blk_below Kgw1.out BZ.out));obtain ⟨lt_gxgg1,A_gg1gx,A_gxgg1,n_gg1gx,n_gxgg1⟩:=fNe hg_ (blk_lt (blk_below Kgx.out BZ.out));obtain ⟨lt_gg0gg1,A_gg1gg0,A_gg0gg1,n_gg1gg0,n_gg0gg1⟩:=fNe hg_ (blk_lt Kgg0.out);replace BZ:=aS (fZ BZ.out hb);replace Kgg0:=aS (blk_below Kgg0.out hb);replace RG:=aS (fSb RG.out hb);replace RV:=aS (fRb RV.out hb);have Kgg1:=aS hbx;clear hg_ hb hbx;skip;refine zz3 Kgg0.out ?_;intros;refine zz3 Kgg1.out ?_;intros)) | ((with_reducible refine gD 10 rfl ?_);go_loud (refine bY #[.int .i64 0,.int .i64 0,.slice none 0 0] 61 ?_;intro gg0 hg_ w12 hbx hb;have Lgg0:=aS (Nat.le_trans (below_size (fZ BA.out BZ.out)) (Nat.le_of_eq hg_.symm));obtain ⟨lt_gagg0,A_gg0ga,A_gagg0,n_gg0ga,n_gagg0⟩:=fNe hg_ (blk_lt (blk_below KA.out BZ.out));obtain ⟨lt_gw0gg0,A_gg0gw0,A_gw0gg0,n_gg0gw0,n_gw0gg0⟩:=fNe hg_ (blk_lt (blk_below Kgw0.out BZ.out));obtain ⟨lt_gw1gg0,A_gg0gw1,A_gw1gg0,n_gg0gw1,n_gw1gg0⟩:=fNe hg_ (blk_lt (blk_below Kgw1.out BZ.out));obtain ⟨lt_gxgg0,A_gg0gx,A_gxgg0,n_gg0gx,n_gxgg0⟩:=fNe hg_ (blk_lt (blk_below Kgx.out BZ.out));rw [← hg_] at RG RV LF;replace BZ:=aS (fZ BZ.out hb);replace RG:=aS (fSb RG.out hb);replace RV:=aS (fRb RV.out hb);have Kgg0:=aS hbx;clear hg_ hb hbx;skip;refine zz3 Kgg0.out ?_;intros)) | (go_at_call 38;go_loud ((with_reducible refine (impl_FindUnit.calls k x1 x2 _ _ lX a1 g1 g2 lG g4 g5 lV g7 _ (Kd.S_reads' (fSb RX.out BZ.out)).2.2 (Kd.S_reads' (fSb RX.out BZ.out)).2.1 hG).mono ?_);rintro e w11 ⟨vG,vV,rfl,hG4,hV4,hb⟩;replace BZ:=aS (fZ BZ.out hb);have RG:=aS (fS_low (fS_mono (fS_win hG4) (fun k_ hk_ => (⟨⟨hk_.2.1,hk_.2.2⟩,hk_.1⟩ : (w10.heap.size ≤ k_ ∧ k_ < w11.heap.size) ∧ some k_ ≠ vV.ownBlock))) (below_size BA.out));have RV:=aS (Kd.R_lower (Kd.R_mono (fR_win (Kd.R_tight rfl hV4)) (fun k_ hk_ => (⟨hk_.1,hk_.2.1,hk_.2.2⟩ : some k_ = vV.ownBlock ∧ w10.heap.size ≤ k_ ∧ k_ < w11.heap.size))) (below_size BA.out));have LF:=aS hb.size;obtain ⟨AG,cG,rfl⟩:=Kd.S_slice hG4;obtain ⟨AV,cV,rfl⟩:=Kd.R_slice hV4;clear hG4 hV4;clear hb;skip)))
        have Lgg:=aS (Nat.lt_of_lt_of_le Lw10.out LF.out)
        generalize w10.heap.size = nF at RG RV LF Lw10
        refine fW (fun W => Aside0 (Below w.heap.size w W) ∧ Aside0 (bB W 56 ga a0_0 a0_1 A0_2 l0_2.length c0_2) ∧ Aside0 (bB W 61 gw0 r1 r2 AW lW.length cW) ∧ Aside0 (bB W 41 gw1 r4 r5 AU lU.length cU) ∧ Aside0 (bB W 61 gx x1 x2 AX lX.length cX) ∧ Aside0 (bB W 61 gg0 g1 g2 AG lG.length cG) ∧ Aside0 (bB W 41 gg1 g4 g5 AV lV.length cV) ∧ Aside0 (rS w W (fun k_ => k_ < gw0) AW cW lW) ∧ Aside0 (rR w W (fun k_ => k_ < gw0) AU cU lU) ∧ Aside0 (rS w W (fun k_ => nD ≤ k_ ∧ k_ < gx) AX cX lX) ∧ Aside0 (rS w W (fun k_ => (nF ≤ k_ ∧ k_ < gg0) ∧ some k_ ≠ (Value.slice AV lV.length cV).ownBlock) AG cG lG) ∧ Aside0 (rR w W (fun k_ => some k_ = (Value.slice AV lV.length cV).ownBlock ∧ (nF ≤ k_ ∧ k_ < gg0)) AV cV lV)) ?_ ?_
        · exact ⟨⟨by (repeat (refine below_set ?_ (by first | exact Lgg0.out | exact Lgg1.out)));exact (fZ BA.out BZ.out)⟩,⟨oP (blk_below KA.out BZ.out)⟩,⟨oP (blk_below Kgw0.out BZ.out)⟩,⟨oP (blk_below Kgw1.out BZ.out)⟩,⟨oP (blk_below Kgx.out BZ.out)⟩,⟨oP Kgg0.out⟩,⟨oP Kgg1.out⟩,⟨fSp (g:=gg0) (g':=gg1) (fSb RW.out BZ.out) (fun k_ hk_ => by have:=hk_;have:=lt_gw0gw1.out;have:=Lgx7.out;have:=Lgg.out;have:=lt_gg0gg1.out;omega)⟩,⟨fRp (g:=gg0) (g':=gg1) (fRb RU.out BZ.out) (fun k_ hk_ => by have:=hk_;have:=lt_gw0gw1.out;have:=Lgx7.out;have:=Lgg.out;have:=lt_gg0gg1.out;omega)⟩,⟨fSp (g:=gg0) (g':=gg1) (fSb RX.out BZ.out) (fun k_ hk_ => by have:=hk_;have:=lt_gw0gw1.out;have:=Lgx7.out;have:=Lgg.out;have:=lt_gg0gg1.out;omega)⟩,⟨fSp (g:=gg0) (g':=gg1) RG.out (fun k_ hk_ => by have:=hk_;have:=lt_gw0gw1.out;have:=Lgx7.out;have:=Lgg.out;have:=lt_gg0gg1.out;omega)⟩,⟨fRp (g:=gg0) (g':=gg1) RV.out (fun k_ hk_ => by have:=hk_;have:=lt_gw0gw1.out;have:=Lgx7.out;have:=Lgg.out;have:=lt_gg0gg1.out;omega)⟩⟩
        clear BA KA Kgw0 Kgw1 Kgx Kgg0 Kgg1 RW RU RX RG RV BZ
        intro w14 ⟨BA,KA,Kgw0,Kgw1,Kgx,Kgg0,Kgg1,RW,RU,RX,RG,RV⟩
        have BZ:=aS (Below.refl w14.heap.size w14)
        refine zz3 Kgg0.out ?_;intros;refine zz3 Kgw0.out ?_;intros
        go_upto_region 10 with (first | (go_at_call 36;go_loud ((with_reducible refine (laws_eqStore.calls k g1 g2 _ _ lG r1 r2 _ _ lW true _ (Kd.S_reads' (fSb RG.out BZ.out)).2.2 (Kd.S_reads' (fSb RG.out BZ.out)).2.1 (Kd.S_reads' (fSb RW.out BZ.out)).2.2 (Kd.S_reads' (fSb RW.out BZ.out)).2.1 hb1).mono ?_);rintro e w15 ⟨rfl,hb⟩;replace BZ:=aS (fZ BZ.out hb);clear hb;skip;refine zz3 (blk_below Kgg1.out BZ.out) ?_;intros;refine zz3 (blk_below Kgw1.out BZ.out) ?_;intros)) | (go_at_call 23;go_loud ((with_reducible refine (laws_eqUnit.calls k g4 g5 _ _ lV r4 r5 _ _ lU true _ (Kd.R_reads' (fRb RV.out BZ.out)).2.2 (Kd.R_reads' (fRb RV.out BZ.out)).2.1 (Kd.R_reads' (fRb RU.out BZ.out)).2.2 (Kd.R_reads' (fRb RU.out BZ.out)).2.1 hb2).mono ?_);rintro e w16 ⟨rfl,hb⟩;replace BZ:=aS (fZ BZ.out hb);clear hb;skip)))
        replace BZ:=aS (below_drew1 BZ.out)
        have Kgx':=aS (blk_below Kgx.out BZ.out)
        have KA':=aS (blk_below KA.out BZ.out)
        refine start_ (n:=5) (S:=fun w' => w'.cell? ⟨gx,0,none⟩ = some (.int .i64 x1) ∧ w'.cell? ⟨gx,1,none⟩ = some (.int .i64 x2) ∧ w'.cell? ⟨gx,2,none⟩ = some (.slice AX lX.length cX) ∧ w'.cell? ⟨ga,0,none⟩ = some (.int .i64 a0_0) ∧ w'.cell? ⟨ga,1,none⟩ = some (.int .i64 a0_1) ∧ w'.cell? ⟨ga,2,none⟩ = some (.slice A0_2 l0_2.length c0_2)) (ds:=[]) (bA 5 0) (by kernel_rfl) rfl rfl ⟨xc Kgx',xc Kgx',xc Kgx',xc KA',xc KA',xc KA'⟩ (fun hHeld => ?_)
        clear Kgx' KA'
        generalize w16.drew = w17 at BZ hHeld ⊢
        refine tB 0 56 1 ?_
        refine tB 1 57 3 ?_
        refine oneB 2 58 7 fun K hK => ?_
        refine goesS Try.func34 #[.agg #[.int .i64 a0_0,.int .i64 a0_1,.slice A0_2 l0_2.length c0_2]] ?_
        with_reducible refine (laws_toStore.calls k a0_0 a0_1 _ _ l0_2 x1 x2 lX _ ?s1 hc0_2 hX).mono ?_
        case s1 => exact Kd.C_below hr0_2 (fZ BA.out BZ.out)
        rintro e w18 ⟨vY,rfl,hT3,hb⟩
        refine ⟨_,rfl,?_⟩
        replace BZ:=aS (fZ BZ.out hb)
        have RY:=aS hT3
        obtain ⟨AY,cY,rfl⟩:=Kd.S_slice hT3
        clear hT3 hb
        refine hK.out _ _ (czc3 (blk_below Kgx.out BZ.out) (cz3 (blk_below KA.out BZ.out))) (fun hHeld => ?_)
        clear hK K
        refine norm_ (a':=?_) ?_ ?_
        rotate_left
        · show Act.put _ (some 58) _ = _;go_frame;(try simp only [i64_w,i32_w]);rfl
        refine oneB 3 59 15 fun K hK => ?_
        refine goesS Try.func36 #[.agg #[.int .i64 x1,.int .i64 x2,.slice AX lX.length cX],.agg #[.int .i64 x1,.int .i64 x2,.slice AY lX.length cY]] ?_
        with_reducible refine (laws_eqStore.calls k x1 x2 _ _ lX x1 x2 _ _ lX true _ (Kd.S_reads' (fSb RX.out BZ.out)).2.2 (Kd.S_reads' (fSb RX.out BZ.out)).2.1 (Kd.S_reads' RY.out).2.2 (Kd.S_reads' RY.out).2.1 hb3).mono ?_
        rintro e w19 ⟨rfl,hb⟩
        refine ⟨_,rfl,?_⟩
        replace BZ:=aS (fZ BZ.out hb)
        clear hb RY
        refine hK.out _ _ (czc3 (blk_below Kgx.out BZ.out) (cz3 (blk_below KA.out BZ.out))) (fun hHeld => ?_)
        clear hK K
        refine norm_ (a':=?_) ?_ ?_
        rotate_left
        · show Act.put _ (some 59) _ = _;go_frame;(try simp only [i64_w,i32_w]);rfl
        refine pB 4 60 31 ?_
        refine done_ (by kernel_rfl) ?_
        clear hHeld
        refine zz3 (blk_below Kgx.out BZ.out) ?_;intros
        have LN:=aS (And.intro lt_gagw0.out (And.intro lt_gw0gw1.out (And.intro Lw7.out (And.intro LD.out (And.intro Lw10.out (And.intro LF.out lt_gg0gg1.out))))))
        have kK:=decide_eq_false (show ¬ K1 < 0 from fun h_ => absurd hqq.1 (by omega))
        go_upto_region 14 with (first | (go_at_call 39;go_loud ((with_reducible refine (laws_markStore.calls k x1 x2 (fun k_ => nD ≤ k_ ∧ k_ < gx) AX cX lX 1 K1 K2 w _ (fZ BA.out BZ.out) (fSb RX.out BZ.out) hK).mono ?_);rintro e w20 ⟨rfl,hS,hb,hkp⟩;clear hS RX Kgx;replace BA:=aS hb;replace KA:=aS (blk_kept (blk_below KA.out BZ.out) hkp (fun h_ => by have h2_ : nD ≤ ga ∧ ga < gx:=h_;have:=LN.out;omega));replace Kgw0:=aS (blk_kept (blk_below Kgw0.out BZ.out) hkp (fun h_ => by have h2_ : nD ≤ gw0 ∧ gw0 < gx:=h_;have:=LN.out;omega));replace Kgw1:=aS (blk_kept (blk_below Kgw1.out BZ.out) hkp (fun h_ => by have h2_ : nD ≤ gw1 ∧ gw1 < gx:=h_;have:=LN.out;omega));replace Kgg0:=aS (blk_kept (blk_below Kgg0.out BZ.out) hkp (fun h_ => by have h2_ : nD ≤ gg0 ∧ gg0 < gx:=h_;have:=LN.out;omega));replace Kgg1:=aS (blk_kept (blk_below Kgg1.out BZ.out) hkp (fun h_ => by have h2_ : nD ≤ gg1 ∧ gg1 < gx:=h_;have:=LN.out;omega));replace RW:=aS (fS_step (fSb RW.out BZ.out) (fun k_ hk_ _ hl_ => hkp.2 k_ hl_ (fun h_ => by have h1_ : k_ < gw0:=hk_;have h2_ : nD ≤ k_ ∧ k_ < gx:=h_;have:=LN.out;omega)));replace RU:=aS (fR_step (fRb RU.out BZ.out) (fun k_ hk_ _ hl_ => hkp.2 k_ hl_ (fun h_ => by have h1_ : k_ < gw0:=hk_;have h2_ : nD ≤ k_ ∧ k_ < gx:=h_;have:=LN.out;omega)));replace RG:=aS (fS_step (fSb RG.out BZ.out) (fun k_ hk_ _ hl_ => hkp.2 k_ hl_ (fun h_ => by have h1_ : (nF ≤ k_ ∧ k_ < gg0) ∧ some k_ ≠ (Value.slice AV lV.length cV).ownBlock:=hk_;have h2_ : nD ≤ k_ ∧ k_ < gx:=h_;have:=LN.out;omega)));replace RV:=aS (fR_step (fRb RV.out BZ.out) (fun k_ hk_ _ hl_ => hkp.2 k_ hl_ (fun h_ => by have h1_ : some k_ = (Value.slice AV lV.length cV).ownBlock ∧ (nF ≤ k_ ∧ k_ < gg0):=hk_;have h2_ : nD ≤ k_ ∧ k_ < gx:=h_;have:=LN.out;omega)));replace BZ:=aS (Below.refl w20.heap.size w20);clear hb hkp;skip;refine zz3 (blk_below Kgg0.out BZ.out) ?_;intros;refine zz3 (blk_below Kgw0.out BZ.out) ?_;intros)))
        go_upto_region 17 with (first | (go_at_call 36;go_loud ((with_reducible refine (laws_eqStore.calls k g1 g2 _ _ lG r1 r2 _ _ lW true _ (Kd.S_reads' (fSb RG.out BZ.out)).2.2 (Kd.S_reads' (fSb RG.out BZ.out)).2.1 (Kd.S_reads' (fSb RW.out BZ.out)).2.2 (Kd.S_reads' (fSb RW.out BZ.out)).2.1 hb1).mono ?_);rintro e w21 ⟨rfl,hb⟩;replace BZ:=aS (fZ BZ.out hb);clear hb;skip;refine zz3 (blk_below Kgg1.out BZ.out) ?_;intros;refine zz3 (blk_below Kgw1.out BZ.out) ?_;intros)) | (go_at_call 23;go_loud ((with_reducible refine (laws_eqUnit.calls k g4 g5 _ _ lV r4 r5 _ _ lU true _ (Kd.R_reads' (fRb RV.out BZ.out)).2.2 (Kd.R_reads' (fRb RV.out BZ.out)).2.1 (Kd.R_reads' (fRb RU.out BZ.out)).2.2 (Kd.R_reads' (fRb RU.out BZ.out)).2.1 hb2).mono ?_);rintro e w22 ⟨rfl,hb⟩;replace BZ:=aS (fZ BZ.out hb);clear hb;skip;refine zz3 (blk_below Kgg0.out BZ.out) ?_;intros)))
        go_upto_region 20 with (first | (go_at_call 39;go_loud (have Lsz:=aS (blk_lt (blk_below Kgg1.out BZ.out));have LVsz:=aS (fR_ownlt (fRb RV.out BZ.out));(with_reducible refine (laws_markStore.calls k g1 g2 (fun k_ => (nF ≤ k_ ∧ k_ < gg0) ∧ some k_ ≠ (Value.slice AV lV.length cV).ownBlock) AG cG lG 1 M1 M2 w _ (fZ BA.out BZ.out) (fSb RG.out BZ.out) hM).mono ?_);rintro e w23 ⟨rfl,hS,hb,hkp⟩;replace BA:=aS hb;replace KA:=aS (blk_kept (blk_below KA.out BZ.out) hkp (fun h_ => by have h2_ : (nF ≤ ga ∧ ga < gg0) ∧ some ga ≠ (Value.slice AV lV.length cV).ownBlock:=h_;have:=LN.out;omega));replace Kgw0:=aS (blk_kept (blk_below Kgw0.out BZ.out) hkp (fun h_ => by have h2_ : (nF ≤ gw0 ∧ gw0 < gg0) ∧ some gw0 ≠ (Value.slice AV lV.length cV).ownBlock:=h_;have:=LN.out;omega));replace Kgw1:=aS (blk_kept (blk_below Kgw1.out BZ.out) hkp (fun h_ => by have h2_ : (nF ≤ gw1 ∧ gw1 < gg0) ∧ some gw1 ≠ (Value.slice AV lV.length cV).ownBlock:=h_;have:=LN.out;omega));replace Kgg0:=aS (blk_kept (blk_below Kgg0.out BZ.out) hkp (fun h_ => by have h2_ : (nF ≤ gg0 ∧ gg0 < gg0) ∧ some gg0 ≠ (Value.slice AV lV.length cV).ownBlock:=h_;have:=LN.out;omega));replace Kgg1:=aS (blk_kept (blk_below Kgg1.out BZ.out) hkp (fun h_ => by have h2_ : (nF ≤ gg1 ∧ gg1 < gg0) ∧ some gg1 ≠ (Value.slice AV lV.length cV).ownBlock:=h_;have:=LN.out;omega));replace RW:=aS (fS_step (fSb RW.out BZ.out) (fun k_ hk_ _ hl_ => hkp.2 k_ hl_ (fun h_ => by have h1_ : k_ < gw0:=hk_;have h2_ : (nF ≤ k_ ∧ k_ < gg0) ∧ some k_ ≠ (Value.slice AV lV.length cV).ownBlock:=h_;have:=LN.out;omega)));replace RU:=aS (fR_step (fRb RU.out BZ.out) (fun k_ hk_ _ hl_ => hkp.2 k_ hl_ (fun h_ => by have h1_ : k_ < gw0:=hk_;have h2_ : (nF ≤ k_ ∧ k_ < gg0) ∧ some k_ ≠ (Value.slice AV lV.length cV).ownBlock:=h_;have:=LN.out;omega)));replace RV:=aS (fR_step (fRb RV.out BZ.out) (fun k_ hk_ _ hl_ => hkp.2 k_ hl_ (fun h_ => h_.2 hk_.1)));replace RG:=aS (fS_mono hS (fun k_ hk_ => hk_.elim (fun h_ => h_.2) (fun h_ => (fun he_ => Nat.lt_irrefl _ (Nat.lt_of_le_of_lt h_ (LVsz.out _ he_))))) );have lenG:=aS (Kd.S_reads' hS).1;replace BZ:=aS (Below.refl w23.heap.size w23);clear hS hb hkp;skip;refine zz3 (blk_below Kgg1.out BZ.out) ?_;intros)) | (go_at_call 29;go_loud ((with_reducible refine (laws_markUnit.calls k g4 g5 (fun k_ => some k_ = (Value.slice AV lV.length cV).ownBlock ∧ (nF ≤ k_ ∧ k_ < gg0)) _ lV M1 N1 N2 w _ (fZ BA.out BZ.out) (fRb RV.out BZ.out) hN).mono ?_);rintro e w24 ⟨rfl,hS,hb,hkp⟩;replace BA:=aS hb;replace KA:=aS (blk_kept (blk_below KA.out BZ.out) hkp (fun h_ => by have h2_ : some ga = (Value.slice AV lV.length cV).ownBlock ∧ (nF ≤ ga ∧ ga < gg0):=h_;have:=LN.out;omega));replace Kgw0:=aS (blk_kept (blk_below Kgw0.out BZ.out) hkp (fun h_ => by have h2_ : some gw0 = (Value.slice AV lV.length cV).ownBlock ∧ (nF ≤ gw0 ∧ gw0 < gg0):=h_;have:=LN.out;omega));replace Kgw1:=aS (blk_kept (blk_below Kgw1.out BZ.out) hkp (fun h_ => by have h2_ : some gw1 = (Value.slice AV lV.length cV).ownBlock ∧ (nF ≤ gw1 ∧ gw1 < gg0):=h_;have:=LN.out;omega));replace Kgg0:=aS (blk_kept (blk_below Kgg0.out BZ.out) hkp (fun h_ => by have h2_ : some gg0 = (Value.slice AV lV.length cV).ownBlock ∧ (nF ≤ gg0 ∧ gg0 < gg0):=h_;have:=LN.out;omega));replace Kgg1:=aS (blk_kept (blk_below Kgg1.out BZ.out) hkp (fun h_ => by have h2_ : some gg1 = (Value.slice AV lV.length cV).ownBlock ∧ (nF ≤ gg1 ∧ gg1 < gg0):=h_;have:=LN.out;omega));replace RW:=aS (fS_step (fSb RW.out BZ.out) (fun k_ hk_ _ hl_ => hkp.2 k_ hl_ (fun h_ => by have h1_ : k_ < gw0:=hk_;have h2_ : some k_ = (Value.slice AV lV.length cV).ownBlock ∧ (nF ≤ k_ ∧ k_ < gg0):=h_;have:=LN.out;omega)));replace RU:=aS (fR_step (fRb RU.out BZ.out) (fun k_ hk_ _ hl_ => hkp.2 k_ hl_ (fun h_ => by have h1_ : k_ < gw0:=hk_;have h2_ : some k_ = (Value.slice AV lV.length cV).ownBlock ∧ (nF ≤ k_ ∧ k_ < gg0):=h_;have:=LN.out;omega)));replace RG:=aS (fS_step (fSb RG.out BZ.out) (fun k_ hk_ _ hl_ => hkp.2 k_ hl_ (fun h_ => hk_ h_.1)));replace RV:=aS (Kd.R_mono hS (fun k_ _ => trivial : ∀ k_,_ → (fun _ => True) k_));have lenV:=aS (Kd.R_reads' RV.out).1;replace BZ:=aS (Below.refl w24.heap.size w24);clear hS hb hkp;rw [lenG.out] at Kgg0 RG;rw [lenV.out] at Kgg1 RV;skip;refine zz3 (blk_below Kgg0.out BZ.out) ?_;intros)))
        have kq1:=decide_eq_false (show ¬ q1 < 0 from fun h_ => absurd hqq.2.1 (by omega))
        have kq2:=decide_eq_false (show ¬ q2 < 0 from fun h_ => absurd hqq.2.2.1 (by omega))
        have kqN:=bne_eq_false_iff_eq.mpr hqq.2.2.2
        go_upto_region 28 with (first | (go_at_call 40;go_loud ((with_reducible refine (laws_heldStore.calls k g1 g2 _ _ M2 1 q1 _ (Kd.S_reads' (fSb RG.out BZ.out)).2.2 (Kd.S_reads' (fSb RG.out BZ.out)).2.1 hq1).mono ?_);rintro e w25 ⟨rfl,hb⟩;replace BZ:=aS (fZ BZ.out hb);clear hb;skip;refine zz3 (blk_below Kgg1.out BZ.out) ?_;intros)) | (go_at_call 41;go_loud ((with_reducible refine (laws_heldUnit.calls k g4 g5 _ _ N2 q1 q2 _ (Kd.R_reads' (fRb RV.out BZ.out)).2.2 (Kd.R_reads' (fRb RV.out BZ.out)).2.1 hq2).mono ?_);rintro e w26 ⟨rfl,hb⟩;replace BZ:=aS (fZ BZ.out hb);clear hb;skip;refine zz3 (blk_below KA.out BZ.out) ?_;intros)))
        replace RW:=aS (fSlt (fSb RW.out BZ.out))
        replace RU:=aS (fRlt (fRb RU.out BZ.out))
        replace RG:=aS (fSlt (fSb RG.out BZ.out))
        replace RV:=aS (fRlt (fRb RV.out BZ.out))
        replace BA:=aS (fZ BA.out BZ.out)
        replace KA:=aS (blk_below KA.out BZ.out)
        replace Kgw0:=aS (blk_below Kgw0.out BZ.out)
        replace Kgw1:=aS (blk_below Kgw1.out BZ.out)
        replace Kgg0:=aS (blk_below Kgg0.out BZ.out)
        replace Kgg1:=aS (blk_below Kgg1.out BZ.out)
        replace BZ:=aS (Below.refl w26.heap.size w26)
        go_upto_region 29 with (first | ((with_reducible refine gD 17 rfl ?_);go_loud (refine bY #[.int .i64 0,.int .i64 0,.slice none 0 0] 41 ?_;intro gh1 hg_ w30 hbx hb;have Lgh1:=aS (Nat.le_trans (below_size (fZ BA.out BZ.out)) (Nat.le_of_eq hg_.symm));obtain ⟨lt_gagh1,A_gh1ga,A_gagh1,n_gh1ga,n_gagh1⟩:=fNe hg_ (blk_lt (blk_below KA.out BZ.out));obtain ⟨lt_gw0gh1,A_gh1gw0,A_gw0gh1,n_gh1gw0,n_gw0gh1⟩:=fNe hg_ (blk_lt (blk_below Kgw0.out BZ.out));obtain ⟨lt_gw1gh1,A_gh1gw1,A_gw1gh1,n_gh1gw1,n_gw1gh1⟩:=fNe hg_ (blk_lt (blk_below Kgw1.out BZ.out));obtain ⟨lt_gg0gh1,A_gh1gg0,A_gg0gh1,n_gh1gg0,n_gg0gh1⟩:=fNe hg_ (blk_lt (blk_below Kgg0.out BZ.out));obtain ⟨lt_gg1gh1,A_gh1gg1,A_gg1gh1,n_gh1gg1,n_gg1gh1⟩:=fNe hg_ (blk_lt (blk_below Kgg1.out BZ.out));obtain ⟨lt_gh0gh1,A_gh1gh0,A_gh0gh1,n_gh1gh0,n_gh0gh1⟩:=fNe hg_ (blk_lt Kgh0.out);replace BZ:=aS (fZ BZ.out hb);replace Kgh0:=aS (blk_below Kgh0.out hb);replace RH:=aS (fSb RH.out hb);replace RJ:=aS (fRb RJ.out hb);have Kgh1:=aS hbx;clear hg_ hb hbx;skip;refine zz3 Kgh0.out ?_;intros;refine zz3 Kgh1.out ?_;intros)) | ((with_reducible refine gD 16 rfl ?_);go_loud (refine bY #[.int .i64 0,.int .i64 0,.slice none 0 0] 61 ?_;intro gh0 hg_ w29 hbx hb;have Lgh0:=aS (Nat.le_trans (below_size (fZ BA.out BZ.out)) (Nat.le_of_eq hg_.symm));obtain ⟨lt_gagh0,A_gh0ga,A_gagh0,n_gh0ga,n_gagh0⟩:=fNe hg_ (blk_lt (blk_below KA.out BZ.out));obtain ⟨lt_gw0gh0,A_gh0gw0,A_gw0gh0,n_gh0gw0,n_gw0gh0⟩:=fNe hg_ (blk_lt (blk_below Kgw0.out BZ.out));obtain ⟨lt_gw1gh0,A_gh0gw1,A_gw1gh0,n_gh0gw1,n_gw1gh0⟩:=fNe hg_ (blk_lt (blk_below Kgw1.out BZ.out));obtain ⟨lt_gg0gh0,A_gh0gg0,A_gg0gh0,n_gh0gg0,n_gg0gh0⟩:=fNe hg_ (blk_lt (blk_below Kgg0.out BZ.out));obtain ⟨lt_gg1gh0,A_gh0gg1,A_gg1gh0,n_gh0gg1,n_gg1gh0⟩:=fNe hg_ (blk_lt (blk_below Kgg1.out BZ.out));rw [← hg_] at RH RJ LH;replace BZ:=aS (fZ BZ.out hb);replace RH:=aS (fSb RH.out hb);replace RJ:=aS (fRb RJ.out hb);have Kgh0:=aS hbx;clear hg_ hb hbx;skip;refine zz3 Kgh0.out ?_;intros)) | (go_at_call 38;go_loud ((with_reducible refine (impl_FindUnit.calls k x1 x2 _ _ lX a1 g1 g2 lG g4 g5 lV g7 _ (Kd.S_reads' RT.out).2.2 (Kd.S_reads' RT.out).2.1 hG).mono ?_);rintro e w28 ⟨vG2,vV2,rfl,hG4,hV4,hb⟩;have BZ':=BZ.out;replace BZ:=aS (fZ BZ.out hb);have RH:=aS (fS_low (fSlt hG4) (below_size (fZ BA.out BZ')));have RJ:=aS (Kd.R_lower (fRlt hV4) (below_size (fZ BA.out BZ')));have LH:=aS BZ.out.size;obtain ⟨AH,cH,rfl⟩:=Kd.S_slice hG4;obtain ⟨AJ,cJ,rfl⟩:=Kd.R_slice hV4;clear hG4 hV4 RT;clear hb BZ';skip)) | (go_at_call 34;go_loud ((with_reducible refine (laws_toStore.calls k a0_0 a0_1 _ _ l0_2 x1 x2 lX _ ?s1 hc0_2 hX).mono ?_);(case s1 => exact Kd.C_below hr0_2 (fZ BA.out BZ.out));rintro e w27 ⟨vT2,rfl,hT3,hb⟩;replace BZ:=aS (fZ BZ.out hb);have RT:=aS hT3;obtain ⟨AT2,cT2,rfl⟩:=Kd.S_slice hT3;clear hT3;clear hb;skip)))
        generalize w26.heap.size = nH at RW RU RG RV LH
        refine fW (fun W => Aside0 (Below w.heap.size w W) ∧ Aside0 (bB W 56 ga a0_0 a0_1 A0_2 l0_2.length c0_2) ∧ Aside0 (bB W 61 gw0 r1 r2 AW lW.length cW) ∧ Aside0 (bB W 41 gw1 r4 r5 AU lU.length cU) ∧ Aside0 (bB W 61 gg0 g1 g2 AG M2.length cG) ∧ Aside0 (bB W 41 gg1 g4 g5 AV N2.length cV) ∧ Aside0 (bB W 61 gh0 g1 g2 AH lG.length cH) ∧ Aside0 (bB W 41 gh1 g4 g5 AJ lV.length cJ) ∧ Aside0 (rS w W (fun k_ => k_ < nH) AW cW lW) ∧ Aside0 (rR w W (fun k_ => k_ < nH) AU cU lU) ∧ Aside0 (rS w W (fun k_ => k_ < nH) AG cG M2) ∧ Aside0 (rR w W (fun k_ => k_ < nH) AV cV N2) ∧ Aside0 (rS w W (fun k_ => k_ < gh0) AH cH lG) ∧ Aside0 (rR w W (fun k_ => k_ < gh0) AJ cJ lV)) ?_ ?_
        · exact ⟨⟨by (repeat (refine below_set ?_ (by first | exact Lgh0.out | exact Lgh1.out)));exact (fZ BA.out BZ.out)⟩,⟨oP (blk_below KA.out BZ.out)⟩,⟨oP (blk_below Kgw0.out BZ.out)⟩,⟨oP (blk_below Kgw1.out BZ.out)⟩,⟨oP (blk_below Kgg0.out BZ.out)⟩,⟨oP (blk_below Kgg1.out BZ.out)⟩,⟨oP Kgh0.out⟩,⟨oP Kgh1.out⟩,⟨fSp (g:=gh0) (g':=gh1) (fSb RW.out BZ.out) (fun k_ hk_ => by have:=hk_;have:=LH.out;have:=lt_gh0gh1.out;omega)⟩,⟨fRp (g:=gh0) (g':=gh1) (fRb RU.out BZ.out) (fun k_ hk_ => by have:=hk_;have:=LH.out;have:=lt_gh0gh1.out;omega)⟩,⟨fSp (g:=gh0) (g':=gh1) (fSb RG.out BZ.out) (fun k_ hk_ => by have:=hk_;have:=LH.out;have:=lt_gh0gh1.out;omega)⟩,⟨fRp (g:=gh0) (g':=gh1) (fRb RV.out BZ.out) (fun k_ hk_ => by have:=hk_;have:=LH.out;have:=lt_gh0gh1.out;omega)⟩,⟨fSp (g:=gh0) (g':=gh1) RH.out (fun k_ hk_ => by have:=hk_;have:=LH.out;have:=lt_gh0gh1.out;omega)⟩,⟨fRp (g:=gh0) (g':=gh1) RJ.out (fun k_ hk_ => by have:=hk_;have:=LH.out;have:=lt_gh0gh1.out;omega)⟩⟩
        clear BA KA Kgw0 Kgw1 Kgg0 Kgg1 Kgh0 Kgh1 RW RU RG RV RH RJ BZ
        intro w31 ⟨BA,KA,Kgw0,Kgw1,Kgg0,Kgg1,Kgh0,Kgh1,RW,RU,RG,RV,RH,RJ⟩
        have BZ:=aS (Below.refl w31.heap.size w31)
        refine zz3 Kgh0.out ?_;intros;refine zz3 Kgw0.out ?_;intros
        go_upto_region 32 with (first | (go_at_call 36;go_loud ((with_reducible refine (laws_eqStore.calls k g1 g2 _ _ lG r1 r2 _ _ lW true _ (Kd.S_reads' (fSb RH.out BZ.out)).2.2 (Kd.S_reads' (fSb RH.out BZ.out)).2.1 (Kd.S_reads' (fSb RW.out BZ.out)).2.2 (Kd.S_reads' (fSb RW.out BZ.out)).2.1 hb1).mono ?_);rintro e w32 ⟨rfl,hb⟩;replace BZ:=aS (fZ BZ.out hb);clear hb;skip;refine zz3 (blk_below Kgh1.out BZ.out) ?_;intros;refine zz3 (blk_below Kgw1.out BZ.out) ?_;intros)) | (go_at_call 23;go_loud ((with_reducible refine (laws_eqUnit.calls k g4 g5 _ _ lV r4 r5 _ _ lU true _ (Kd.R_reads' (fRb RJ.out BZ.out)).2.2 (Kd.R_reads' (fRb RJ.out BZ.out)).2.1 (Kd.R_reads' (fRb RU.out BZ.out)).2.2 (Kd.R_reads' (fRb RU.out BZ.out)).2.1 hb2).mono ?_);rintro e w33 ⟨rfl,hb⟩;replace BZ:=aS (fZ BZ.out hb);clear hb;skip;refine zz3 (blk_below Kgg0.out BZ.out) ?_;intros)))
        go_wp2_with (first | (go_at_call 40;go_loud ((with_reducible refine (laws_heldStore.calls k g1 g2 _ _ M2 1 q1 _ (Kd.S_reads' (fSb RG.out BZ.out)).2.2 (Kd.S_reads' (fSb RG.out BZ.out)).2.1 hq1).mono ?_);rintro e w34 ⟨rfl,hb⟩;replace BZ:=aS (fZ BZ.out hb);clear hb;skip;refine zz3 (blk_below Kgg1.out BZ.out) ?_;intros)) | (go_at_call 41;go_loud ((with_reducible refine (laws_heldUnit.calls k g4 g5 _ _ N2 q1 q2 _ (Kd.R_reads' (fRb RV.out BZ.out)).2.2 (Kd.R_reads' (fRb RV.out BZ.out)).2.1 hq2).mono ?_);rintro e w35 ⟨rfl,hb⟩;replace BZ:=aS (fZ BZ.out hb);clear hb;skip)))
        go_ret
        exact ⟨rfl,(fZ BA.out BZ.out)⟩
end Go.Proofs.Ytjnifnhpnccpcaa.F
