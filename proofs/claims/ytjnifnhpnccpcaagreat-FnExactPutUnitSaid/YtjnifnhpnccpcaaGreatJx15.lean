-- Made by this session's program gprint.py out of the translation. Not trusted: Lean checks it.
import Derived.Test.YtjnifnhpnccpcaaGreatJx0
import Derived.Test.YtjnifnhpnccpcaaGreatJx10
import Derived.Test.YtjnifnhpnccpcaaGreatJx11
import Derived.Test.YtjnifnhpnccpcaaGreatJx12
import Derived.Test.YtjnifnhpnccpcaaGreatJx14
namespace Go.Proofs.YtjnifnhpnccpcaaGreat.J
open Go.RowKit Go.Proofs.YtjnifnhpnccpcaaGreatW.PrintWords Go.Proofs.YtjnifnhpnccpcaaGreatW.PrintLast Go.Proofs.YtjnifnhpnccpcaaGreatW.PrintMore
attribute [local go_sem] max2_int min2_int max_two min_two max_three min_three max_four min_four
set_option linter.unusedVariables false
set_option linter.unusedSimpArgs false
theorem dGen {P : Program} {c : Code} {Q : Exit → Act → World → Prop} {a : Act} {W : World} (F : World → Prop) (hF : F W) (h : ∀ W',F W' → c.wp P Q a W') : c.wp P Q a W:=h W hF
theorem dZ {w W W2 : World} (h : Below w.heap.size w W) (hb : Below W.heap.size W W2) : Below w.heap.size w W2:=h.trans ⟨hb.os,hb.tape,hb.output,hb.size,fun i hi => hb.block i (Nat.lt_of_lt_of_le hi h.size)⟩
theorem dSets {α : Type} {d : Kd α} {e base g t : Nat} {ok : Nat → Prop} {w W : World} {v : Value} {xs : List α} {cells : Array Value} (h : Kd.S d e w base ok v xs) (hb : w.heap[g]? = some (.cells cells t (0,0))) (ht : ∀ q,q ∈ e :: d.E → q ≠ t) (s : Keep2 w W g g:=by repeat (with_reducible first | exact keep2_refl _ _ _ | apply keep2_put1 | apply keep2_put2 | apply keep2_drewN | apply keep2_drew)) : Kd.S d e W base ok v xs :=
  Kd.S_mono (Kd.S_step (Kd.S_types h hb ht) (fun k hk hl => s.2 k hl hk.2 hk.2)) (fun _ hk => hk.1)
theorem dW {j n : Nat} (h : j < n) (hn : n ≤ 1048576) : Value.int .i64 (wrap64 ((j : Int) + 1)) = .int .i64 ((j + 1 : Nat) : Int):=by
  congr 1
  unfold wrap64
  omega
def leastG (l : List S60) : List S60 → Nat → Nat → Nat
  | [],_,b => b
  | x :: xs,i,b => leastG l xs (i + 1) (if x.f1 < (l.getD b z60).f1 then i else b)
theorem dFtake {α : Type} {d : Kd α} {W : World} {ok : Nat → Prop} {A : Option Addr} {xs : List α} {m : Nat} (h : Kd.F d W ok A xs.length xs) (hm : m ≤ xs.length) : Kd.F d W ok A m (xs.take m):=by
  have h2:=Kd.F_take (m:=m) h hm
  rw [List.length_take,Nat.min_eq_left hm] at h2
  exact h2
theorem dFcut {α : Type} {d : Kd α} {W : World} {ok : Nat → Prop} {A : Option Addr} {xs : List α} {m c : Nat} (h : Kd.F d W ok A xs.length xs) (hm : m ≤ xs.length) (hc : xs.length ≤ c) : Kd.F d W ok (if c = m then A else A.map (·.add (m * d.sz))) (xs.length - m) (xs.drop m):=by
  have h2:=Kd.F_cut (m:=m) (c:=c) h hm hc
  rw [List.length_drop] at h2
  exact h2
def sDel (x0 : Int) (l0 : List S60) (t : Int) : Option (List S60) :=
  if t < 0 then (if (l0.length : Int) = x0 then (if leastG l0 l0 0 0 < l0.length then spec_l16Without.f l0 (leastG l0 l0 0 0 : Int) else none) else some l0) else spec_l16Without.f l0 t
def sAt (u0 : Int) : List S60 → Nat → Nat
  | [],i => i
  | x :: xs,i => if x.f0.f0 < u0 then sAt u0 xs (i + 1) else i
theorem sAt_le (u0 : Int) : ∀ (l : List S60) (i : Nat),sAt u0 l i ≤ i + l.length
  | [],i => Nat.le_refl _
  | x :: xs,i => by
    rw [sAt]
    split
    · have:=sAt_le u0 xs (i + 1)
      rw [List.length_cons];omega
    · omega
def spec_l16Put.f (k : Nat) (x0 x1 : Int) (l0 : List S60) (u0 u1 : Int) (lU : List S70) : Option (Int × Int × List S60 × Bool) :=
  if x1 = 1000000 then some (x0,x1,l0,false) else if l0.length ≤ 1048576 then
    (spec_l16At.f k x0 x1 l0 u0).bind fun t => (sDel x0 l0 t).bind fun l1 => (spec_l16OwnUnit.f u0 u1 lU).bind fun v =>
      if l1.length ≤ 1048576 then some (x0,wrap64 (x1 + 1),l1.take (sAt u0 l1 0) ++ [(⟨⟨v.1,v.2.1,v.2.2⟩,wrap64 (x1 + 1)⟩ : S60)] ++ l1.drop (sAt u0 l1 0),true) else none
    else none
set_option maxHeartbeats 1600000 in
set_option maxRecDepth 100000 in
theorem spec_l16Put.calls (k : Nat) (P : Nat → Prop) (A0 : Option Addr) (c0 : Nat) (l0 : List S60) (x0 x1 u0 u1 : Int) (AU : Option Addr) (cU : Nat) (lU : List S70) (r1 r2 : Int) (r3 : List S60) (r4 : Bool) (w : World) (hs : Kd.V k60 60 w w.heap.size P (.slice A0 l0.length c0) l0) (hUr : Kd.C k70 w AU lU.length lU) (hUc : lU.length ≤ cU) (h : spec_l16Put.f k x0 x1 l0 u0 u1 lU = some (r1,r2,r3,r4)) :
    Calls Tryz.prog 19 #[.agg #[.int .i64 x0,.int .i64 x1,.slice A0 l0.length c0],.agg #[.int .i64 u0,.int .i64 u1,.slice AU lU.length cU]] w fun e w' => ∃ A c,e = .returned (.tuple #[.agg #[.int .i64 r1,.int .i64 r2,.slice A r3.length c],.bool r4]) ∧ Kd.V k60 60 w' w.heap.size (fun k_ => P k_ ∨ w.heap.size ≤ k_) (.slice A r3.length c) r3 ∧ Below w.heap.size w w':=by
  have hu61:=Tryz.underlying32
  have hu41:=Tryz.underlying38
  have hu60:=Tryz.underlying60
  unfold spec_l16Put.f at h
  have HV0:=aS (fun b_ : Nat => (show Kd.V k60 60 w b_ (fun k_ => P k_ ∧ k_ < w.heap.size) (.slice A0 l0.length c0) l0 from Kd.V_bound hs))
  have Hc:=aS (Kd.V_reads' hs).2.1
  have HU:=aS hUr
  have Hu:=aS hUc
  clear hs hUr hUc
  by_cases hx : x1 = 1000000
  · rw [if_pos hx] at h
    subst hx
    simp only [Option.some.injEq,Prod.mk.injEq] at h
    obtain ⟨rfl,rfl,rfl,rfl⟩:=h
    go_enter Tryz.func19,Tryz.ntmps19
    have BW:=aS (Below.refl w.heap.size w)
    go_upto_region 1 with (first | ((with_reducible refine gD 4 rfl ?_);go_loud (refine bY #[.int .i64 0,.int .i64 0,.slice none 0 0] 32 ?_;intro g4 hg_ w4 hbx hb;have L4:=aS (Nat.le_trans (below_size BW.out) (Nat.le_of_eq hg_.symm));have n2_4:=aS (Nat.ne_of_lt (by rw [hg_];exact blk_lt K2.out : g2 < g4));have n3_4:=aS (Nat.ne_of_lt (by rw [hg_];exact blk_lt K3.out : g3 < g4));replace K2:=aS (blk_below K2.out hb);replace K3:=aS (blk_below K3.out hb);replace BW:=aS (dZ BW.out hb);have K4:=aS hbx;clear hg_ hb hbx;skip)) | ((with_reducible refine gD 3 rfl ?_);go_loud (refine bY #[.int .i64 u0,.int .i64 u1,.slice AU lU.length cU] 38 ?_;intro g3 hg_ w3 hbx hb;have L3:=aS (Nat.le_trans (below_size BW.out) (Nat.le_of_eq hg_.symm));have n2_3:=aS (Nat.ne_of_lt (by rw [hg_];exact blk_lt K2.out : g2 < g3));replace K2:=aS (blk_below K2.out hb);replace BW:=aS (dZ BW.out hb);have K3:=aS hbx;clear hg_ hb hbx;skip)) | ((with_reducible refine gD 2 rfl ?_);go_loud (refine bY #[.int .i64 x0,.int .i64 1000000,.slice A0 l0.length c0] 32 ?_;intro g2 hg_ w2 hbx hb;have L2:=aS (Nat.le_trans (below_size BW.out) (Nat.le_of_eq hg_.symm));replace BW:=aS (dZ BW.out hb);have K2:=aS hbx;clear hg_ hb hbx;skip)))
    refine zz3 K2.out ?_;intros;refine zz3 K3.out ?_;intros;refine zz3 K4.out ?_;intros
    go_wp2
    refine bodyPost_ret (results_ct rfl _ _ g4 32 #[.int .i64 x0,.int .i64 1000000,.slice A0 l0.length c0] (0,0) _ rfl (oP K4.out) Tryz.underlying32 rfl (by kernel_rfl)) rfl ?_
    exact ⟨A0,c0,oE,Kd.V_mono (Kd.V_below (HV0.out _) (by repeat (first | exact BW.out | refine below_set ?_ L4.out))) (fun _ h_ => .inl h_.1),by repeat (first | exact BW.out | refine below_set ?_ L4.out)⟩
  · rw [if_neg hx] at h
    have kx : (x1 == 1000000) = false:=beq_eq_false_iff_ne.2 hx
    clear hx
    by_cases hl : l0.length ≤ 1048576
    rotate_left
    · rw [if_neg hl] at h;exact absurd h (by simp)
    rw [if_pos hl] at h
    replace h:=bE h;obtain ⟨t,hA,h⟩:=h
    replace h:=bE h;obtain ⟨l1,hD,h⟩:=h
    replace h:=bE h;obtain ⟨⟨v0,v1,lV⟩,hO,h⟩:=h
    dsimp only at h
    by_cases hl1 : l1.length ≤ 1048576
    rotate_left
    · rw [if_neg hl1] at h;exact absurd h (by simp)
    rw [if_pos hl1] at h
    simp only [Option.some.injEq,Prod.mk.injEq] at h
    obtain ⟨rfl,rfl,rfl,rfl⟩:=h
    have Al:=aS hl
    have Al1:=aS hl1
    have AO:=aS hO
    have AD:=aS hD
    clear hl hl1 hO
    go_enter Tryz.func19,Tryz.ntmps19
    have BW:=aS (Below.refl w.heap.size w)
    go_upto_region 1 with (first | ((with_reducible refine gD 4 rfl ?_);go_loud (refine bY #[.int .i64 0,.int .i64 0,.slice none 0 0] 32 ?_;intro g4 hg_ w4 hbx hb;have L4:=aS (Nat.le_trans (below_size BW.out) (Nat.le_of_eq hg_.symm));have n2_4:=aS (Nat.ne_of_lt (by rw [hg_];exact blk_lt K2.out : g2 < g4));have n3_4:=aS (Nat.ne_of_lt (by rw [hg_];exact blk_lt K3.out : g3 < g4));replace K2:=aS (blk_below K2.out hb);replace K3:=aS (blk_below K3.out hb);replace BW:=aS (dZ BW.out hb);have K4:=aS hbx;clear hg_ hb hbx;skip)) | ((with_reducible refine gD 3 rfl ?_);go_loud (refine bY #[.int .i64 u0,.int .i64 u1,.slice AU lU.length cU] 38 ?_;intro g3 hg_ w3 hbx hb;have L3:=aS (Nat.le_trans (below_size BW.out) (Nat.le_of_eq hg_.symm));have n2_3:=aS (Nat.ne_of_lt (by rw [hg_];exact blk_lt K2.out : g2 < g3));replace K2:=aS (blk_below K2.out hb);replace BW:=aS (dZ BW.out hb);have K3:=aS hbx;clear hg_ hb hbx;skip)) | ((with_reducible refine gD 2 rfl ?_);go_loud (refine bY #[.int .i64 x0,.int .i64 x1,.slice A0 l0.length c0] 32 ?_;intro g2 hg_ w2 hbx hb;have L2:=aS (Nat.le_trans (below_size BW.out) (Nat.le_of_eq hg_.symm));replace BW:=aS (dZ BW.out hb);have K2:=aS hbx;clear hg_ hb hbx;skip)))
    refine zz3 K2.out ?_;intros;refine zz3 K3.out ?_;intros;refine zz3 K4.out ?_;intros
    go_upto_region 4 with (first | (go_at_call 39;go_loud ((with_reducible refine (spec_l16At.calls k x0 x1 A0 c0 l0 u0 t _ ?s1 Hc.out hA).mono ?_);(case s1 => exact (Kd.V_reads' (Kd.V_below (HV0.out 0) BW.out)).2.2);rintro e w11 ⟨rfl,hb⟩;replace K2:=aS (blk_below K2.out hb);replace K3:=aS (blk_below K3.out hb);replace K4:=aS (blk_below K4.out hb);replace BW:=aS (dZ BW.out hb);refine zz3 K2.out ?_;intros;refine zz3 K3.out ?_;intros;refine zz3 K4.out ?_;intros;clear hb)))
    clear hA
    have hD:=AD.out
    unfold sDel at hD
    have hsc : (t < 0 ∧ (l0.length : Int) = x0 ∧ leastG l0 l0 0 0 < l0.length ∧ spec_l16Without.f l0 (leastG l0 l0 0 0 : Int) = some l1) ∨ (t < 0 ∧ ¬ (l0.length : Int) = x0 ∧ l1 = l0) ∨ (¬ t < 0 ∧ spec_l16Without.f l0 t = some l1):=by
      by_cases ht : t < 0
      · rw [if_pos ht] at hD
        by_cases hq : (l0.length : Int) = x0
        · rw [if_pos hq] at hD
          by_cases hle : leastG l0 l0 0 0 < l0.length
          · rw [if_pos hle] at hD;exact .inl ⟨ht,hq,hle,hD⟩
          · rw [if_neg hle] at hD;exact absurd hD (by simp)
        · rw [if_neg hq] at hD
          injection hD with hD
          exact .inr (.inl ⟨ht,hq,hD.symm⟩)
      · rw [if_neg ht] at hD;exact .inr (.inr ⟨ht,hD⟩)
    have BX:=BW
    clear hD AD
    rcases hsc with ⟨ht,hq,hle,hD⟩ | ⟨ht,hq,hD⟩ | ⟨ht,hD⟩
    focus
      have kt:=decide_eq_true ht
      have kb : ((l0.length : Int) == x0) = true:=beq_iff_eq.2 hq
      have AW0:=aS hD
      have Alz:=aS (show 0 < l0.length by omega)
      clear hD hq hle ht
      go_upto_region 6 with (fail)
      go_wp2
      go_loopg [6,7,8,32] l0.length (fun gq v6 _ _ v32 wr => ∃ (j i : Nat),v32 = .int .i64 j ∧ v6 = .int .i64 i ∧ Aside0 (j + gq = l0.length) ∧ Aside0 (i < l0.length) ∧ Aside0 (leastG l0 (l0.drop j) j i = leastG l0 l0 0 0) ∧ Aside0 (Below w.heap.size w wr) ∧ Aside0 (Below w11.heap.size w11 wr))
      case atStart => exact ⟨0,0,rfl,rfl,⟨by omega⟩,Alz,⟨rfl⟩,⟨BX.out⟩,⟨Below.refl _ _⟩⟩
      case' round =>
        obtain ⟨j,i,rfl,rfl,Aj,Ai,AL,BR,BS⟩:=hrel
        by_cases hlt : j < l0.length
        · have k1 : decide ((j : Int) < (l0.length : Int)) = true:=decide_eq_true (by omega)
          have p0 : (0 ≤ (j : Int)) = True:=eq_true (by omega)
          have q0 : ((j : Int) < (l0.length : Int)) = True:=eq_true (by omega)
          have p1 : (0 ≤ (i : Int)) = True:=eq_true (by omega)
          have q1 : ((i : Int) < (l0.length : Int)) = True:=eq_true (by have:=Ai.out;omega)
          have AC:=aS (fun (W : World) (hb : Below w.heap.size w W) => (Kd.V_reads' (Kd.V_below (HV0.out 0) hb)).2.2)
          obtain ⟨ad,A2,c2,eA,hx0,hx1,hx2,hx3,_,_⟩:=at_T60 (AC.out wr BR.out) (j : Int) (by omega) (by omega)
          cases eA
          simp only [Int.toNat_natCast] at hx0 hx1 hx2 hx3
          have Alt:=aS hlt
          clear hlt
          refine zz3 (blk_below K2.out BS.out) ?_;intros
          go_upto_region 9 with (first | ((with_reducible refine gD 8 rfl ?_);go_loud (refine bY #[.int .i64 0,.int .i64 0,.slice none 0 0,.int .i64 0] 60 ?_;intro gv hg_ w1 hbx hb;have HGE:=aS (Nat.le_of_eq hg_.symm : wr.heap.size ≤ gv);have HBX:=aS hb;have HKV:=aS hbx;obtain ⟨hz0,hz1,hz2,hz3⟩:=cz4 hbx;obtain ⟨hf0,hf1,hf2,hf3⟩:=fz4 hbx;clear hg_ hb hbx)))
          refine dGen (fun W => Aside0 (Below wr.heap.size wr W) ∧ Aside0 (W.heap[gv]? = some (.cells #[.int .i64 (rd_T60 l0 j).f0.f0,.int .i64 (rd_T60 l0 j).f0.f1,.slice A2 (rd_T60 l0 j).f0.f2.length c2,.int .i64 (rd_T60 l0 j).f1] 60 (0,0)))) ⟨⟨by repeat (first | exact HBX.out | refine below_set ?_ HGE.out)⟩,⟨oP HKV.out⟩⟩ ?_
          clear HBX HKV hz0 hz1 hz2 hz3 hf0 hf1 hf2 hf3 hx0 hx1 hx2 hx3
          intro W ⟨BWW,KV⟩
          have BRW:=aS (dZ BR.out BWW.out)
          have BSW:=aS (dZ BS.out BWW.out)
          obtain ⟨hz0,hz1,hz2,hz3⟩:=cz4 KV.out
          obtain ⟨ad2,A3,c3,eA,hy0,hy1,hy2,hy3,_,_⟩:=at_T60 (AC.out W BRW.out) (i : Int) (by omega) (by have:=Ai.out;omega)
          cases eA
          simp only [Int.toNat_natCast] at hy0 hy1 hy2 hy3
          refine zz3 (blk_below K2.out BSW.out) ?_;intros
          have hst:=AL.out
          rw [List.drop_eq_getElem_cons Alt.out,leastG] at hst
          have hrj : rd_T60 l0 (j : Int) = l0[j]'Alt.out:=by unfold rd_T60;rw [Int.toNat_natCast,List.getD_eq_getElem?_getD,List.getElem?_eq_getElem Alt.out];rfl
          have hri : rd_T60 l0 (i : Int) = l0.getD i z60:=by unfold rd_T60;rw [Int.toNat_natCast]
          rw [← hrj,← hri] at hst
          clear hrj hri
          by_cases hless : (rd_T60 l0 (j : Int)).f1 < (rd_T60 l0 (i : Int)).f1
          · rw [if_pos hless] at hst
            have k2:=decide_eq_true hless
            have Ast:=aS hst
            clear hst hless
            go_quiet (fail)
            go_wp2
            go_roundg (l0.length - (j + 1))
            case measure => have:=Aj.out;have:=Alt.out;omega
            case rel => exact ⟨j + 1,j,dW Alt.out Al.out,rfl,⟨by have:=Alt.out;omega⟩,Alt,Ast,⟨pw_below_drewN BRW.out _⟩,⟨pw_below_drewN BSW.out _⟩⟩
          · rw [if_neg hless] at hst
            have k2:=decide_eq_false hless
            have Ast:=aS hst
            clear hst hless
            go_quiet (fail)
            go_wp2
            go_roundg (l0.length - (j + 1))
            case measure => have:=Aj.out;have:=Alt.out;omega
            case rel => exact ⟨j + 1,i,dW Alt.out Al.out,rfl,⟨by have:=Alt.out;omega⟩,Ai,Ast,⟨pw_below_drewN BRW.out _⟩,⟨pw_below_drewN BSW.out _⟩⟩
        obtain rfl : j = l0.length:=by have:=Aj.out;omega
        have k1 : decide ((l0.length : Int) < (l0.length : Int)) = false:=decide_eq_false (by omega)
        have hst:=AL.out
        rw [List.drop_of_length_le (Nat.le_refl _),leastG] at hst
        have hW:=aS (show spec_l16Without.f l0 (i : Int) = some l1 by rw [hst];exact AW0.out)
        have kge : decide (0 ≤ (i : Int)) = true:=decide_eq_true (by omega)
        clear hst hlt AL BX
        have BX:=BR
        replace K2:=aS (blk_below K2.out BS.out)
        replace K3:=aS (blk_below K3.out BS.out)
        replace K4:=aS (blk_below K4.out BS.out)
        refine zz3 K2.out ?_;intros
        go_upto_region 14 with (first | (go_at_call 40;go_loud ((with_reducible refine (spec_l16Without.calls (fun k_ => P k_ ∧ k_ < w.heap.size) A0 c0 l0 (i : Int) l1 _ (Kd.V_below (HV0.out _) BX.out) hW.out).mono ?_);rintro e w12 ⟨vW,rfl,hN,hb⟩;have NQ:=aS (And.intro (blk_lt K2.out) (And.intro (blk_lt K3.out) (And.intro (blk_lt K4.out) hb.size)));obtain ⟨A1,c1,rfl⟩:=Kd.N_slice hN;have VN:=aS (Kd.N_V (base':=w.heap.size) hN);replace K2:=aS (blk_below K2.out hb);replace K3:=aS (blk_below K3.out hb);replace K4:=aS (blk_below K4.out hb);replace BW:=aS (dZ BX.out hb);refine zz3 K2.out ?_;intros;clear hN hb)))
        refine dGen (fun W => ∃ (A1 : Option Addr) (c1 nQ : Nat),Aside0 (Kd.V k60 60 W w.heap.size (fun k_ => (P k_ ∧ k_ < w.heap.size) ∨ nQ ≤ k_) (.slice A1 l1.length c1) l1) ∧ Aside0 (Below w.heap.size w W) ∧ Aside0 (W.heap[g2]? = some (.cells #[.int .i64 x0,.int .i64 x1,.slice A1 l1.length c1] 32 (0,0))) ∧ Aside0 (W.heap[g3]? = some (.cells #[.int .i64 u0,.int .i64 u1,.slice AU lU.length cU] 38 (0,0))) ∧ Aside0 (W.heap[g4]? = some (.cells #[.int .i64 0,.int .i64 0,.slice none 0 0] 32 (0,0))) ∧ Aside0 (g2 < nQ ∧ g3 < nQ ∧ g4 < nQ ∧ nQ ≤ W.heap.size)) ⟨A1,c1,_,⟨Kd.V_step VN.out (fun k_ hk_ _ => Below.heap_setCell _ ⟨g2,2,none⟩ _ k_ (fun he_ => by have he2_ : k_ = g2:=he_;have h1_:=L2.out;have h2_:=NQ.out.1;rcases hk_ with h_ | h_ <;> omega))⟩,⟨BW.out.setCell (p:=⟨g2,2,none⟩) L2.out _⟩,⟨oP K2.out⟩,⟨blk_far K3.out (p:=⟨g2,2,none⟩) (Ne.symm n2_3.out) _⟩,⟨blk_far K4.out (p:=⟨g2,2,none⟩) (Ne.symm n2_4.out) _⟩,⟨NQ.out.1,NQ.out.2.1,NQ.out.2.2.1,by simpa [World.setCell] using NQ.out.2.2.2⟩⟩ ?_
    rotate_left
    focus
      have kt:=decide_eq_true ht
      have kb : ((l0.length : Int) == x0) = false:=beq_eq_false_iff_ne.2 hq
      have kge : decide (0 ≤ t) = false:=decide_eq_false (by omega)
      clear hq ht
      subst hD
      go_upto_region 14 with (fail)
      refine dGen (fun W => ∃ (A1 : Option Addr) (c1 nQ : Nat),Aside0 (Kd.V k60 60 W w.heap.size (fun k_ => (P k_ ∧ k_ < w.heap.size) ∨ nQ ≤ k_) (.slice A1 l1.length c1) l1) ∧ Aside0 (Below w.heap.size w W) ∧ Aside0 (W.heap[g2]? = some (.cells #[.int .i64 x0,.int .i64 x1,.slice A1 l1.length c1] 32 (0,0))) ∧ Aside0 (W.heap[g3]? = some (.cells #[.int .i64 u0,.int .i64 u1,.slice AU lU.length cU] 38 (0,0))) ∧ Aside0 (W.heap[g4]? = some (.cells #[.int .i64 0,.int .i64 0,.slice none 0 0] 32 (0,0))) ∧ Aside0 (g2 < nQ ∧ g3 < nQ ∧ g4 < nQ ∧ nQ ≤ W.heap.size)) ⟨A0,c0,_,⟨Kd.V_mono (Kd.V_below (HV0.out _) BX.out) (fun _ h_ => .inl h_)⟩,⟨BX.out⟩,⟨K2.out⟩,⟨K3.out⟩,⟨K4.out⟩,⟨blk_lt K2.out,blk_lt K3.out,blk_lt K4.out,Nat.le_refl _⟩⟩ ?_
    rotate_left
    focus
      have kt:=decide_eq_false ht
      have kge : decide (0 ≤ t) = true:=decide_eq_true (by omega)
      have hW:=aS hD
      clear hD ht
      go_upto_region 14 with (first | (go_at_call 40;go_loud ((with_reducible refine (spec_l16Without.calls (fun k_ => P k_ ∧ k_ < w.heap.size) A0 c0 l0 t l1 _ (Kd.V_below (HV0.out _) BX.out) hW.out).mono ?_);rintro e w12 ⟨vW,rfl,hN,hb⟩;have NQ:=aS (And.intro (blk_lt K2.out) (And.intro (blk_lt K3.out) (And.intro (blk_lt K4.out) hb.size)));obtain ⟨A1,c1,rfl⟩:=Kd.N_slice hN;have VN:=aS (Kd.N_V (base':=w.heap.size) hN);replace K2:=aS (blk_below K2.out hb);replace K3:=aS (blk_below K3.out hb);replace K4:=aS (blk_below K4.out hb);replace BW:=aS (dZ BX.out hb);refine zz3 K2.out ?_;intros;clear hN hb)))
      refine dGen (fun W => ∃ (A1 : Option Addr) (c1 nQ : Nat),Aside0 (Kd.V k60 60 W w.heap.size (fun k_ => (P k_ ∧ k_ < w.heap.size) ∨ nQ ≤ k_) (.slice A1 l1.length c1) l1) ∧ Aside0 (Below w.heap.size w W) ∧ Aside0 (W.heap[g2]? = some (.cells #[.int .i64 x0,.int .i64 x1,.slice A1 l1.length c1] 32 (0,0))) ∧ Aside0 (W.heap[g3]? = some (.cells #[.int .i64 u0,.int .i64 u1,.slice AU lU.length cU] 38 (0,0))) ∧ Aside0 (W.heap[g4]? = some (.cells #[.int .i64 0,.int .i64 0,.slice none 0 0] 32 (0,0))) ∧ Aside0 (g2 < nQ ∧ g3 < nQ ∧ g4 < nQ ∧ nQ ≤ W.heap.size)) ⟨A1,c1,_,⟨Kd.V_step VN.out (fun k_ hk_ _ => Below.heap_setCell _ ⟨g2,2,none⟩ _ k_ (fun he_ => by have he2_ : k_ = g2:=he_;have h1_:=L2.out;have h2_:=NQ.out.1;rcases hk_ with h_ | h_ <;> omega))⟩,⟨BW.out.setCell (p:=⟨g2,2,none⟩) L2.out _⟩,⟨oP K2.out⟩,⟨blk_far K3.out (p:=⟨g2,2,none⟩) (Ne.symm n2_3.out) _⟩,⟨blk_far K4.out (p:=⟨g2,2,none⟩) (Ne.symm n2_4.out) _⟩,⟨NQ.out.1,NQ.out.2.1,NQ.out.2.2.1,by simpa [World.setCell] using NQ.out.2.2.2⟩⟩ ?_
    all_goals
      (try clear BW);(try clear K2);(try clear K3);(try clear K4);(try clear BX);(try clear VN);(try clear NQ);(try clear BR);(try clear BS);(try clear hW);(try clear HV0)
      intro W5 ⟨A1,c1,nQ,VU,BW,K2,K3,K4,NQ⟩
      refine zz3 K2.out ?_;intros
      go_upto_region 15 with (fail)
      obtain ⟨y1,hy1⟩ : ∃ y,y = wrap64 (x1 + 1):=⟨_,rfl⟩
      have Ay:=aS hy1
      rw [← hy1]
      clear hy1
      refine dGen (fun W => Aside0 (Kd.V k60 60 W w.heap.size (fun k_ => (P k_ ∧ k_ < w.heap.size) ∨ nQ ≤ k_) (.slice A1 l1.length c1) l1) ∧ Aside0 (Below w.heap.size w W) ∧ Aside0 (W.heap[g2]? = some (.cells #[.int .i64 x0,.int .i64 y1,.slice A1 l1.length c1] 32 (0,0))) ∧ Aside0 (W.heap[g3]? = some (.cells #[.int .i64 u0,.int .i64 u1,.slice AU lU.length cU] 38 (0,0))) ∧ Aside0 (W.heap[g4]? = some (.cells #[.int .i64 0,.int .i64 0,.slice none 0 0] 32 (0,0))) ∧ Aside0 (g2 < nQ ∧ g3 < nQ ∧ g4 < nQ ∧ nQ ≤ W.heap.size)) ⟨⟨Kd.V_step VU.out (fun k_ hk_ _ => Below.heap_setCell _ ⟨g2,1,none⟩ _ k_ (fun he_ => by have he2_ : k_ = g2:=he_;have h1_:=L2.out;have h2_:=NQ.out.1;rcases hk_ with h_ | h_ <;> omega))⟩,⟨BW.out.setCell (p:=⟨g2,1,none⟩) L2.out _⟩,⟨oP K2.out⟩,⟨blk_far K3.out (p:=⟨g2,1,none⟩) (Ne.symm n2_3.out) _⟩,⟨blk_far K4.out (p:=⟨g2,1,none⟩) (Ne.symm n2_4.out) _⟩,⟨NQ.out.1,NQ.out.2.1,NQ.out.2.2.1,by simpa [World.setCell] using NQ.out.2.2.2⟩⟩ ?_
      clear VU BW K2 K3 K4 NQ
      intro W6 ⟨VU,BW,K2,K3,K4,NQ⟩
      refine zz3 K2.out ?_;intros
      refine zz3 K3.out ?_;intros
      obtain ⟨m,hm⟩ : ∃ m,m = sAt u0 l1 0:=⟨_,rfl⟩
      have Am:=aS (show m ≤ l1.length by rw [hm];have:=sAt_le u0 l1 0;omega)
      have AMM:=aS hm
      clear hm
      go_upto_block 2 with (fail)
      go_cut [9] (fun v9 wc => v9 = .int .i64 (m : Int) ∧ Aside0 (Drawn0 W6 wc))
      case first =>
        go_wp2
        go_loopg [9] l1.length (fun gq v9 wr => ∃ aI : Int,v9 = .int .i64 aI ∧ Aside0 (∃ n : Nat,aI = (n : Int) ∧ n + gq = l1.length ∧ sAt u0 (l1.drop n) n = sAt u0 l1 0) ∧ Aside0 (Drawn0 W6 wr))
        case atStart => exact ⟨0,rfl,⟨⟨0,rfl,by omega,rfl⟩⟩,⟨Drawn0.refl _⟩⟩
        case round =>
          obtain ⟨aI,rfl,HA,AQ⟩:=hrel
          obtain ⟨n,hE,hk,hst⟩:=HA.out
          obtain ⟨⟨nd,rfl⟩⟩:=AQ.out
          clear HA
          have K2d:=aS (blk_drewN K2.out nd)
          have K3d:=aS (blk_drewN K3.out nd)
          refine zz3 K2d.out ?_;intros
          refine zz3 K3d.out ?_;intros
          go_upto_region 16 with (fail)
          by_cases hlt : n < l1.length
          · have k1 : decide (aI < (l1.length : Int)) = true:=decide_eq_true (by omega)
            have p101 : 0 ≤ aI:=by omega
            have q101 : aI < (l1.length : Int):=by omega
            obtain ⟨ad,A2,c2,eA,hx0,hx1,hx2,hx3,_,_⟩:=at_T60 (Kd.V_reads' VU.out).2.2 aI p101 q101
            cases eA
            have hr : rd_T60 l1 aI = l1[n]:=by rw [hE];unfold rd_T60;rw [Int.toNat_natCast,List.getD_eq_getElem?_getD,List.getElem?_eq_getElem hlt];rfl
            rw [List.drop_eq_getElem_cons hlt,sAt,← hr] at hst
            have hw : wrap64 (aI + 1) = ((n + 1 : Nat) : Int):=by have:=Al1.out;unfold wrap64;omega
            have AE:=aS hE
            have Ak:=aS hk
            have Alt:=aS hlt
            have Aw:=aS hw
            clear hE hk hlt hr hw
            replace p101:=eq_true p101
            replace q101:=eq_true q101
            by_cases hless : (rd_T60 l1 aI).f0.f0 < u0
            · rw [if_pos hless] at hst
              have k2:=decide_eq_true hless
              have Ast:=aS hst
              clear hst hless
              go_quiet (fail)
              go_wp2
              go_roundg (gk - 1)
              case measure => have:=Ak.out;have:=Alt.out;omega
              case rel => exact ⟨wrap64 (aI + 1),rfl,⟨⟨n + 1,Aw.out,by have:=Ak.out;have:=Alt.out;omega,Ast.out⟩⟩,⟨by first | exact AQ.out.step _ | exact ⟨⟨_,rfl⟩⟩⟩⟩
            · rw [if_neg hless] at hst
              have k2:=decide_eq_false hless
              have Ast:=aS hst
              clear hst hless
              go_quiet (fail)
              go_wp2
              go_meet
              case rel => exact ⟨by rw [AE.out,AMM.out,← Ast.out],⟨by first | exact AQ.out.step _ | exact ⟨⟨_,rfl⟩⟩⟩⟩
          · have k1 : decide (aI < (l1.length : Int)) = false:=decide_eq_false (by omega)
            rw [List.drop_of_length_le (by omega),sAt] at hst
            have Ast:=aS hst
            have AE:=aS hE
            clear hst hE hk hlt
            go_quiet (fail)
            go_wp2
            go_meet
            case rel => exact ⟨by rw [AE.out,AMM.out,← Ast.out],⟨by first | exact AQ.out.step _ | exact ⟨⟨_,rfl⟩⟩⟩⟩
      case rest =>
        obtain ⟨rfl,AQ⟩:=hcut
        obtain ⟨⟨nd,rfl⟩⟩:=AQ.out
        clear AQ
        replace VU:=aS (Kd.V_below VU.out (pw_below_drewN (Below.refl _ _) nd))
        replace K2:=aS (blk_drewN K2.out nd)
        replace K3:=aS (blk_drewN K3.out nd)
        replace K4:=aS (blk_drewN K4.out nd)
        replace BW:=aS (pw_below_drewN BW.out nd)
        replace NQ:=aS (show g2 < nQ ∧ g3 < nQ ∧ g4 < nQ ∧ nQ ≤ (W6.drewN nd).heap.size from NQ.out)
        generalize W6.drewN nd = W7 at VU K2 K3 K4 BW NQ ⊢
        have hTk:=aS (show (l1.take m).length = m by rw [List.length_take];have:=Am.out;omega)
        obtain ⟨i0,hi0,_,hsz0,_⟩:=info_parts info60
        have Hc1:=(Kd.V_reads' VU.out).2.1
        have q1 : ((m : Int) ≤ (l1.length : Int)) = True:=eq_true (by have:=Am.out;omega)
        have q2 : ((0 : Int) ≤ (m : Int)) = True:=eq_true (by omega)
        have hcT : ∀ W : World,(Instr.slice 30 (.slice A1 l1.length c1) none (some (.int .i64 (m : Int))) none).run Tryz.prog W = .ok (.slice A1 m c1) W:=fun W => (cut_to (P:=Tryz.prog) 30 60 .i64 Tryz.underlying30 hi0 A1 l1.length c1 (m : Int) (by omega) (by have:=Am.out;omega) Hc1 W).trans (by rw [Int.toNat_natCast])
        have hcF : ∀ W : World,(Instr.slice 30 (.slice A1 l1.length c1) (some (.int .i64 (m : Int))) none none).run Tryz.prog W = .ok (.slice (if c1 = m then A1 else A1.map (·.add (m * 4))) (l1.length - m) (c1 - m)) W:=fun W => (cut_from (P:=Tryz.prog) 30 60 .i64 Tryz.underlying30 hi0 4 hsz0 A1 l1.length c1 (m : Int) (by omega) (by have:=Am.out;omega) W).trans (by rw [Int.toNat_natCast])
        obtain ⟨AF,hAF⟩ : ∃ A,A = (if c1 = m then A1 else A1.map (·.add (m * 4))):=⟨_,rfl⟩
        rw [← hAF] at hcF
        have AAF:=aS hAF
        have Ac1:=aS Hc1
        clear hAF Hc1
        refine zz3 K2.out ?_;intros
        refine zz3 K3.out ?_;intros
        clear hi0 hsz0
        go_upto_region 19 with (first | (at_builtin;go_loud (refine Kd.N_append_rows k60 (w0:=w) w.heap.size rfl (.tmp 78) (.tmp 82) 30 60 (.agg #[.int .i64 0,.int .i64 0,.slice none 0 0,.int .i64 0]) 48 rfl Tryz.underlying30 info60 rfl (by decide) (by omega) v78 [] (l1.take m) A1 m c1 (fun k_ => (P k_ ∧ k_ < w.heap.size) ∨ nQ ≤ k_) (fun k_ => (fun k_ => (P k_ ∧ k_ < w.heap.size) ∨ nQ ≤ k_) k_ ∧ some k_ ≠ v78.ownBlock) rfl rfl N78.out ?aR (fun _ hk => hk) ?aF BW.out (below_size BW.out) ?aL ?_;(case aR => exact dFtake (Kd.V_at VO.out).2.2 Am.out);(case aF => exact fun k_ hk_ => .inr (Nat.le_trans NQ.out.2.2.2 hk_));(case aL => have:=Am.out;have:=Al1.out;simp only [List.length_nil];omega);intro v83 w13 ho hb hg hat;have NE:=aS (And.intro (Kd.N_ne N78.out K2.out (by decide)) (And.intro (Kd.N_ne N78.out K3.out (by decide)) (Kd.N_ne N78.out K4.out (by decide))));replace VO:=aS (Kd.V_afterv VO.out hg hat);have N83:=aS ho;replace K2:=aS ((hg.block g2 (blk_lt K2.out) NE.out.1).trans K2.out);replace K3:=aS ((hg.block g3 (blk_lt K3.out) NE.out.2.1).trans K3.out);replace K4:=aS ((hg.block g4 (blk_lt K4.out) NE.out.2.2).trans K4.out);replace BW:=aS hb;replace NQ:=aS (And.intro NQ.out.1 (And.intro NQ.out.2.1 (And.intro NQ.out.2.2.1 (Nat.le_trans NQ.out.2.2.2 hg.size))));refine zz3 K2.out ?_;intros;refine zz3 K3.out ?_;intros;clear ho hb hg hat N78 NE)) | ((with_reducible refine gate_dst (N:=78) rfl ?_);go_loud (refine Kd.N_lit k60 _ 60 ?hg (N':=78) ?hd (xs:=([] : List S60)) (inner:=[]) (ok:=(fun k_ => (P k_ ∧ k_ < w.heap.size) ∨ nQ ≤ k_)) (okp:=(fun k_ => (P k_ ∧ k_ < w.heap.size) ∨ nQ ≤ k_)) ?hr ?hp (fun _ hk => hk) (.inr NQ.out.2.2.2) (Below.refl _ _) (Nat.le_refl _) (by simp) ?_;(case hd => rfl);(case hg => rfl);(case hr => first | (go_simp;done) | (go_simp;rfl));(case hp => exact (Reps.none _ _));intro v78 w10 ho hb hg_ hnew_;clear hg_ hnew_;have VO:=aS (Kd.V_elder' VU.out (Kd.N_base ho) hb);have N78:=aS (Kd.N_lower ho (below_size BW.out));replace NQ:=aS (And.intro NQ.out.1 (And.intro NQ.out.2.1 (And.intro NQ.out.2.2.1 (Nat.le_trans NQ.out.2.2.2 hb.size))));replace K2:=aS (blk_below K2.out hb);replace K3:=aS (blk_below K3.out hb);replace K4:=aS (blk_below K4.out hb);replace BW:=aS (dZ BW.out hb);refine zz3 K2.out ?_;intros;refine zz3 K3.out ?_;intros;clear ho hb VU)))
        replace K2:=aS (blk_drew K2.out)
        replace K3:=aS (blk_drew K3.out)
        replace K4:=aS (blk_drew K4.out)
        replace BW:=aS (below_drew1 BW.out)
        replace VO:=aS (Kd.V_drew VO.out)
        replace N83:=aS (Kd.N_drew N83.out)
        replace NQ:=aS (show g2 < nQ ∧ g3 < nQ ∧ g4 < nQ ∧ nQ ≤ w13.drew.heap.size from NQ.out)
        refine start_ (n:=9) (S:=fun w' => w'.cell? ⟨g2,0,none⟩ = some (.int .i64 x0) ∧ w'.cell? ⟨g2,1,none⟩ = some (.int .i64 y1) ∧ w'.cell? ⟨g2,2,none⟩ = some (.slice A1 l1.length c1) ∧ w'.cell? ⟨g3,0,none⟩ = some (.int .i64 u0) ∧ w'.cell? ⟨g3,1,none⟩ = some (.int .i64 u1) ∧ w'.cell? ⟨g3,2,none⟩ = some (.slice AU lU.length cU)) (ds:=[]) (bA 9 0) (by kernel_rfl) rfl rfl ⟨xc K2,xc K2,xc K2,xc K3,xc K3,xc K3⟩ (fun hHeld => ?_)
        generalize w13.drew = w14 at K2 K3 K4 BW VO N83 NQ hHeld ⊢
        have Alt83:=aS (Kd.N_lt N83.out)
        refine pB 0 84 1 ?_
        refine tB 1 85 3 ?_
        refine pB 3 87 11 ?_
        refine tB 4 88 27 ?_
        refine oneB 2 86 31 fun K hK => ?_
        refine goesS Tryz.func41 #[.agg #[.int .i64 u0,.int .i64 u1,.slice AU lU.length cU]] ?_
        with_reducible refine (spec_l16OwnUnit.calls u0 u1 _ _ lU v0 v1 lV _ ?s1 Hu.out AO.out).mono ?_
        case s1 => exact Kd.C_below HU.out BW.out
        rintro e w15 ⟨vV,rfl,hRV,hb⟩
        refine ⟨_,rfl,?_⟩
        have RV:=aS hRV
        obtain ⟨AV,cV,rfl⟩:=Kd.R_slice hRV
        have hVb:=Kd.R_base hRV
        have AVb:=aS (show ∀ k_,some k_ = (Value.slice AV lV.length cV).ownBlock → w14.heap.size ≤ k_ from fun k_ hk_ => hVb k_ hk_.symm)
        replace K2:=aS (blk_below K2.out hb)
        replace K3:=aS (blk_below K3.out hb)
        replace K4:=aS (blk_below K4.out hb)
        replace BW:=aS (dZ BW.out hb)
        replace VO:=aS (Kd.V_below VO.out hb)
        replace N83:=aS (Kd.N_below N83.out hb)
        have NQ14:=NQ
        replace NQ:=aS (And.intro NQ.out.1 (And.intro NQ.out.2.1 (And.intro NQ.out.2.2.1 (Nat.le_trans NQ.out.2.2.2 hb.size))))
        clear hRV hVb hb
        refine hK.out _ _ (czc3 K2.out (cz3 K3.out)) (fun hHeld => ?_)
        clear hK K
        refine norm_ (a':=?_) ?_ ?_
        rotate_left
        · show Act.put _ (some 86) _ = _;go_frame;(try simp only [i64_w,i32_w]);rfl
        refine pB 5 89 63 ?_
        refine oneB 6 90 127 fun K hK => ?_
        refine value_ (w1:=?_) (v:=?_) (by rfl) rfl ?_ ?_
        rotate_left 2
        · go_simp
          constructor
          · rfl
          · rfl
        refine hK.out _ _ (czc3 (blk_alloc K2.out _) (cz3 (blk_alloc K3.out _))) (fun hHeld => ?_)
        clear hK K
        refine norm_ (a':=?_) ?_ ?_
        rotate_left
        · show Act.put _ (some 90) _ = _;go_frame;(try simp only [i64_w,i32_w]);rfl
        have NE:=aS (And.intro (Kd.N_ne N83.out K2.out (by decide)) (And.intro (Kd.N_ne N83.out K3.out (by decide)) (Kd.N_ne N83.out K4.out (by decide))))
        refine oneB 7 91 255 fun K hK => ?_
        refine Kd.N_append_step k60 (w0:=w) w.heap.size (by rfl) (.tmp 84) (.tmp 90) 30 60 (.agg #[.int .i64 0,.int .i64 0,.slice none 0 0,.int .i64 0]) 48 rfl Tryz.underlying30 info60 rfl (by decide) (by omega) v83 ([] ++ l1.take m) (⟨⟨v0,v1,lV⟩,y1⟩ : S60) [.int .i64 v0,.int .i64 v1,.slice AV lV.length cV,.int .i64 y1] (fun k_ => (P k_ ∧ k_ < w.heap.size) ∨ nQ ≤ k_) (fun k_ => some k_ = (Value.slice AV lV.length cV).ownBlock) rfl rfl ?aP ?aK (fun k_ hk_ => .inr (Nat.le_trans NQ.out.2.2.2 hk_)) N83.out BW.out (below_size BW.out) ?aL ?_
        case aP => exact Kd.FK_of_M (k60_mkM _ _ _ (⟨⟨v0,v1,lV⟩,y1⟩ : S60) (Kd.R_tight rfl RV.out))
        case aK => exact fun k_ hk_ => ⟨.inr (Nat.le_trans NQ14.out.2.2.2 (AVb.out k_ hk_)),fun he_ => Nat.lt_irrefl _ (Nat.lt_of_lt_of_le (Alt83.out k_ he_.symm) (AVb.out k_ hk_))⟩
        case aL => have:=Am.out;have:=Al1.out;have:=hTk.out;simp only [List.nil_append];omega
        intro v91 w17 ho hb hg hat
        replace VO:=aS (Kd.V_afterv VO.out hg hat)
        have N91:=aS ho
        replace K2:=aS ((hg.block g2 (blk_lt K2.out) NE.out.1).trans K2.out)
        replace K3:=aS ((hg.block g3 (blk_lt K3.out) NE.out.2.1).trans K3.out)
        replace K4:=aS ((hg.block g4 (blk_lt K4.out) NE.out.2.2).trans K4.out)
        replace BW:=aS hb
        replace NQ:=aS (And.intro NQ.out.1 (And.intro NQ.out.2.1 (And.intro NQ.out.2.2.1 (Nat.le_trans NQ.out.2.2.2 hg.size))))
        clear ho hb hg hat N83 NE RV
        refine hK.out _ _ (czc3 K2.out (cz3 K3.out)) (fun hHeld => ?_)
        clear hK K
        refine norm_ (a':=?_) ?_ ?_
        rotate_left
        · show Act.put _ (some 91) _ = _;go_frame;(try simp only [i64_w,i32_w]);rfl
        refine pB 8 10 511 ?_
        refine done_ (by kernel_rfl) ?_
        clear hHeld hcT
        clear Alt83
        refine zz3 K2.out ?_;intros
        refine zz3 K4.out ?_;intros
        go_upto_region 21 with (first | (at_builtin;go_loud (refine Kd.N_append_rows k60 (w0:=w) w.heap.size rfl (.tmp 92) (.tmp 96) 30 60 (.agg #[.int .i64 0,.int .i64 0,.slice none 0 0,.int .i64 0]) 48 rfl Tryz.underlying30 info60 rfl (by decide) (by omega) v91 ([] ++ l1.take m ++ [(⟨⟨v0,v1,lV⟩,y1⟩ : S60)]) (l1.drop m) AF (l1.length - m) (c1 - m) (fun k_ => (P k_ ∧ k_ < w.heap.size) ∨ nQ ≤ k_) (fun k_ => (fun k_ => (P k_ ∧ k_ < w.heap.size) ∨ nQ ≤ k_) k_ ∧ some k_ ≠ v91.ownBlock) rfl rfl N91.out ?aR (fun _ hk => hk) ?aF BW.out (below_size BW.out) ?aL ?_;(case aR => rw [AAF.out];exact dFcut (Kd.V_at VO.out).2.2 Am.out Ac1.out);(case aF => exact fun k_ hk_ => .inr (Nat.le_trans NQ.out.2.2.2 hk_));(case aL => have:=Am.out;have:=Al1.out;have:=hTk.out;simp only [List.length_nil,List.length_append,List.length_singleton,List.nil_append];omega);intro v97 w18 ho hb hg hat;have NE:=aS (And.intro (Kd.N_ne N91.out K2.out (by decide)) (And.intro (Kd.N_ne N91.out K3.out (by decide)) (Kd.N_ne N91.out K4.out (by decide))));replace VO:=aS (Kd.V_afterv VO.out hg hat);have N97:=aS ho;replace K2:=aS ((hg.block g2 (blk_lt K2.out) NE.out.1).trans K2.out);replace K3:=aS ((hg.block g3 (blk_lt K3.out) NE.out.2.1).trans K3.out);replace K4:=aS ((hg.block g4 (blk_lt K4.out) NE.out.2.2).trans K4.out);replace BW:=aS hb;replace NQ:=aS (And.intro NQ.out.1 (And.intro NQ.out.2.1 (And.intro NQ.out.2.2.1 (Nat.le_trans NQ.out.2.2.2 hg.size))));obtain ⟨lN,hlN⟩ : ∃ l,l = [] ++ l1.take m ++ [(⟨⟨v0,v1,lV⟩,y1⟩ : S60)] ++ l1.drop m:=⟨_,rfl⟩;rw [← hlN] at N97;have AN:=aS (hlN.symm : [] ++ l1.take m ++ [(⟨⟨v0,v1,lV⟩,y1⟩ : S60)] ++ l1.drop m = lN);clear hlN;obtain ⟨AZ,cZ,rfl⟩:=Kd.N_slice N97.out;refine zz3 K2.out ?_;intros;refine zz3 K3.out ?_;intros;clear ho hb hg hat N91 NE)))
        refine dGen (fun W => Aside0 (W.heap[g2]? = some (.cells #[.int .i64 x0,.int .i64 y1,.slice AZ lN.length cZ] 32 (0,0))) ∧ Aside0 (W.heap[g4]? = some (.cells #[.int .i64 0,.int .i64 0,.slice none 0 0] 32 (0,0))) ∧ Aside0 (Kd.N k60 60 W w.heap.size (fun k_ => (P k_ ∧ k_ < w.heap.size) ∨ nQ ≤ k_) (.slice AZ lN.length cZ) lN) ∧ Aside0 (Below w.heap.size w W)) ⟨⟨oP K2.out⟩,⟨blk_far K4.out (p:=⟨g2,2,none⟩) (Ne.symm n2_4.out) _⟩,⟨Kd.N_step N97.out (fun k_ hk_ _ => Below.heap_setCell _ ⟨g2,2,none⟩ _ k_ (fun he_ => by have he2_ : k_ = g2:=he_;have h1_:=L2.out;have h2_:=NQ.out.1;rcases hk_ with h_ | h_ <;> omega))⟩,⟨BW.out.setCell (p:=⟨g2,2,none⟩) L2.out _⟩⟩ ?_
        have A4:=aS NQ.out.2.2.1
        clear VO BW K2 K3 K4 NQ N97
        intro W8 ⟨K2,K4,NL,BW⟩
        refine zz3 K2.out ?_;intros
        refine zz3 K4.out ?_;intros
        go_wp2
        refine bodyPost_ret (results_ct rfl _ _ g4 32 #[.int .i64 x0,.int .i64 y1,.slice AZ lN.length cZ] (0,0) _ rfl (oP K4.out) Tryz.underlying32 rfl (by kernel_rfl)) rfl ?_
        have hN:=AN.out
        rw [List.nil_append,AMM.out,Ay.out] at hN
        rw [hN,← Ay.out]
        have Ne4 : ∀ k_,((P k_ ∧ k_ < w.heap.size) ∨ nQ ≤ k_) → k_ ≠ g4:=fun k_ hk_ he_ => by have h1_:=L4.out;have h2_:=A4.out;rcases hk_ with h_ | h_ <;> omega
        exact ⟨AZ,cZ,rfl,Kd.V_mono (Kd.N_V (Kd.N_step NL.out (fun k_ hk_ _ => ((Below.heap_setCell _ ⟨g4,2,none⟩ _ k_ (Ne4 k_ hk_)).trans (Below.heap_setCell _ ⟨g4,1,none⟩ _ k_ (Ne4 k_ hk_))).trans (Below.heap_setCell _ ⟨g4,0,none⟩ _ k_ (Ne4 k_ hk_))))) (fun k_ hk_ => hk_.imp And.left (fun h_ => by have h1_:=L4.out;have h2_:=A4.out;omega)),((BW.out.setCell (p:=⟨g4,0,none⟩) L4.out _).setCell (p:=⟨g4,1,none⟩) L4.out _).setCell (p:=⟨g4,2,none⟩) L4.out _⟩
theorem dBnd {α : Type} {d : Kd α} {e : Nat} {w : World} {base : Nat} {ok : Nat → Prop} {v : Value} {xs : List α} (h : Kd.S d e w base ok v xs) : Kd.S d e w base (fun k => base ≤ k) v xs:=by
  obtain ⟨f,h⟩:=h
  exact ⟨f,Kd.R_mono (Kd.R_bound h) (fun _ hk => hk.2.1)⟩
def spec_PutUnit.f (k : Nat) (a0_0 a0_1 : Int) (l0_2 : List S60) (a1_0 a1_1 : Int) (l1_2 : List S70) : Option (Int × Int × List S60 × Bool) :=
  (spec_GoodStore.f k a0_0 a0_1 l0_2).bind fun t1 => if t1 = true then (spec_GoodUnit.f k a1_0 a1_1 l1_2).bind fun t2 => (if t2 = true then
    (spec_l16Own.f k a0_0 a0_1 l0_2).bind fun b => (spec_l16Put.f k b.1 b.2.1 b.2.2 a1_0 a1_1 l1_2).bind fun p => (if p.2.2.2 = true then (spec_l16Own.f k p.1 p.2.1 p.2.2.1).bind fun q => some (q.1,q.2.1,q.2.2,true) else some (0,0,[],false))
    else some (0,0,[],false)) else some (0,0,[],false)
set_option maxHeartbeats 8000000 in
set_option maxRecDepth 100000 in
theorem spec_PutUnit.calls (k : Nat) (a0_0 : Int) (a0_1 : Int) (A0_2 : Option Addr) (c0_2 : Nat) (l0_2 : List S60) (a1_0 : Int) (a1_1 : Int) (A1_2 : Option Addr) (c1_2 : Nat) (l1_2 : List S70) (r1 : Int) (r2 : Int) (r3 : List S60) (r4 : Bool) (w : World) (hr0_2 : Kd.C k60 w A0_2 l0_2.length l0_2) (hc0_2 : l0_2.length ≤ c0_2) (hr1_2 : Kd.C k70 w A1_2 l1_2.length l1_2) (hc1_2 : l1_2.length ≤ c1_2) (h : spec_PutUnit.f k a0_0 a0_1 l0_2 a1_0 a1_1 l1_2 = some (r1,r2,r3,r4)) :
    Calls Tryz.prog 6 #[.agg #[.int .i64 a0_0,.int .i64 a0_1,.slice A0_2 l0_2.length c0_2],.agg #[.int .i64 a1_0,.int .i64 a1_1,.slice A1_2 l1_2.length c1_2]] w fun e w' => ∃ v2_ : Value,e = .returned (.tuple #[.agg #[.int .i64 r1,.int .i64 r2,v2_],.bool r4]) ∧ Kd.S k60 60 w' w.heap.size (fun _ => True) v2_ r3 ∧ Below w.heap.size w w':=by
  have hu61:=Tryz.underlying32
  have hu41:=Tryz.underlying38
  unfold spec_PutUnit.f at h
  have HC:=aS hr0_2
  have Hc:=aS hc0_2
  have HC1:=aS hr1_2
  have Hc1:=aS hc1_2
  clear hr0_2 hc0_2 hr1_2 hc1_2
  replace h:=bE h;obtain ⟨t1,hG,h⟩:=h
  go_enter Tryz.func6,Tryz.ntmps6
  have BW:=aS (Below.refl w.heap.size w)
  go_upto_region 1 with (first | ((with_reducible refine gD 4 rfl ?_);go_loud (refine bY #[.int .i64 0,.int .i64 0,.slice none 0 0] 32 ?_;intro g4 hg_ w4 hbx hb;have L4:=aS (Nat.le_trans (below_size BW.out) (Nat.le_of_eq hg_.symm));have n2_4:=aS (Nat.ne_of_lt (by rw [hg_];exact blk_lt K2.out : g2 < g4));have n3_4:=aS (Nat.ne_of_lt (by rw [hg_];exact blk_lt K3.out : g3 < g4));replace K2:=aS (blk_below K2.out hb);replace K3:=aS (blk_below K3.out hb);replace BW:=aS (dZ BW.out hb);have K4:=aS hbx;clear hg_ hb hbx;skip)) | ((with_reducible refine gD 3 rfl ?_);go_loud (refine bY #[.int .i64 a1_0,.int .i64 a1_1,.slice A1_2 l1_2.length c1_2] 38 ?_;intro g3 hg_ w3 hbx hb;have L3:=aS (Nat.le_trans (below_size BW.out) (Nat.le_of_eq hg_.symm));have n2_3:=aS (Nat.ne_of_lt (by rw [hg_];exact blk_lt K2.out : g2 < g3));replace K2:=aS (blk_below K2.out hb);replace BW:=aS (dZ BW.out hb);have K3:=aS hbx;clear hg_ hb hbx;skip)) | ((with_reducible refine gD 2 rfl ?_);go_loud (refine bY #[.int .i64 a0_0,.int .i64 a0_1,.slice A0_2 l0_2.length c0_2] 32 ?_;intro g2 hg_ w2 hbx hb;have L2:=aS (Nat.le_trans (below_size BW.out) (Nat.le_of_eq hg_.symm));replace BW:=aS (dZ BW.out hb);have K2:=aS hbx;clear hg_ hb hbx;skip)))
  refine zz3 K2.out ?_;intros;refine zz3 K3.out ?_;intros
  by_cases ht1 : t1 = true
  rotate_left
  · rw [if_neg ht1] at h
    replace ht1:=Bool.eq_false_iff.mpr ht1
    subst ht1
    simp only [Option.some.injEq,Prod.mk.injEq] at h
    obtain ⟨rfl,rfl,rfl,rfl⟩:=h
    go_wp2_with (first | (go_at_call 17;go_loud ((with_reducible refine (spec_GoodStore.calls k a0_0 a0_1 _ _ l0_2 _ _ ?s1 Hc.out hG).mono ?_);(case s1 => exact Kd.C_below HC.out BW.out);rintro e w11 ⟨rfl,hb⟩;replace K2:=aS (blk_below K2.out hb);replace K3:=aS (blk_below K3.out hb);replace K4:=aS (blk_below K4.out hb);replace BW:=aS (dZ BW.out hb);refine zz3 K2.out ?_;intros;refine zz3 K3.out ?_;intros;refine zz3 K4.out ?_;intros;clear hb)))
    refine bodyPost_ret (results_ct rfl _ _ g4 32 #[.int .i64 0,.int .i64 0,.slice none 0 0] (0,0) _ rfl (oP K4.out) Tryz.underlying32 rfl (by kernel_rfl)) rfl ?_
    exact ⟨_,oE,Kd.S_nil _ _ _ _ _,by repeat (first | exact BW.out | refine below_set ?_ L4.out | apply pw_below_drewN)⟩
  · subst ht1
    rw [if_pos rfl] at h
    replace h:=bE h;obtain ⟨t2,h2,h⟩:=h
    by_cases ht2 : t2 = true
    rotate_left
    · rw [if_neg ht2] at h
      replace ht2:=Bool.eq_false_iff.mpr ht2
      subst ht2
      simp only [Option.some.injEq,Prod.mk.injEq] at h
      obtain ⟨rfl,rfl,rfl,rfl⟩:=h
      go_wp2_with (first | (go_at_call 18;go_loud ((with_reducible refine (spec_GoodUnit.calls k a1_0 a1_1 _ _ l1_2 _ _ ?s1 Hc1.out h2).mono ?_);(case s1 => exact Kd.C_below HC1.out BW.out);rintro e w12 ⟨rfl,hb⟩;replace K2:=aS (blk_below K2.out hb);replace K3:=aS (blk_below K3.out hb);replace K4:=aS (blk_below K4.out hb);replace BW:=aS (dZ BW.out hb);refine zz3 K2.out ?_;intros;refine zz3 K3.out ?_;intros;refine zz3 K4.out ?_;intros;clear hb)) | (go_at_call 17;go_loud ((with_reducible refine (spec_GoodStore.calls k a0_0 a0_1 _ _ l0_2 _ _ ?s1 Hc.out hG).mono ?_);(case s1 => exact Kd.C_below HC.out BW.out);rintro e w11 ⟨rfl,hb⟩;replace K2:=aS (blk_below K2.out hb);replace K3:=aS (blk_below K3.out hb);replace K4:=aS (blk_below K4.out hb);replace BW:=aS (dZ BW.out hb);refine zz3 K2.out ?_;intros;refine zz3 K3.out ?_;intros;refine zz3 K4.out ?_;intros;clear hb)))
      refine bodyPost_ret (results_ct rfl _ _ g4 32 #[.int .i64 0,.int .i64 0,.slice none 0 0] (0,0) _ rfl (oP K4.out) Tryz.underlying32 rfl (by kernel_rfl)) rfl ?_
      exact ⟨_,oE,Kd.S_nil _ _ _ _ _,by repeat (first | exact BW.out | refine below_set ?_ L4.out | apply pw_below_drewN)⟩
    · subst ht2
      rw [if_pos rfl] at h
      replace h:=bE h;obtain ⟨⟨b1,b2,lB⟩,hO,h⟩:=h
      dsimp only at h
      replace h:=bE h;obtain ⟨⟨p1,p2,lP,p3⟩,hP,h⟩:=h
      dsimp only at h
      go_upto_region 3 with (first | (go_at_call 18;go_loud ((with_reducible refine (spec_GoodUnit.calls k a1_0 a1_1 _ _ l1_2 _ _ ?s1 Hc1.out h2).mono ?_);(case s1 => exact Kd.C_below HC1.out BW.out);rintro e w12 ⟨rfl,hb⟩;replace K2:=aS (blk_below K2.out hb);replace K3:=aS (blk_below K3.out hb);replace K4:=aS (blk_below K4.out hb);replace BW:=aS (dZ BW.out hb);refine zz3 K2.out ?_;intros;refine zz3 K3.out ?_;intros;refine zz3 K4.out ?_;intros;clear hb)) | (go_at_call 17;go_loud ((with_reducible refine (spec_GoodStore.calls k a0_0 a0_1 _ _ l0_2 _ _ ?s1 Hc.out hG).mono ?_);(case s1 => exact Kd.C_below HC.out BW.out);rintro e w11 ⟨rfl,hb⟩;replace K2:=aS (blk_below K2.out hb);replace K3:=aS (blk_below K3.out hb);replace K4:=aS (blk_below K4.out hb);replace BW:=aS (dZ BW.out hb);refine zz3 K2.out ?_;intros;refine zz3 K3.out ?_;intros;refine zz3 K4.out ?_;intros;clear hb)))
      refine dGen (fun W => Aside0 (Below w.heap.size w W) ∧ Aside0 (W.heap[g2]? = some (.cells #[.int .i64 a0_0,.int .i64 a0_1,.slice A0_2 l0_2.length c0_2] 32 (0,0))) ∧ Aside0 (W.heap[g3]? = some (.cells #[.int .i64 a1_0,.int .i64 a1_1,.slice A1_2 l1_2.length c1_2] 38 (0,0))) ∧ Aside0 (W.heap[g4]? = some (.cells #[.int .i64 0,.int .i64 0,.slice none 0 0] 32 (0,0)))) ⟨⟨by repeat (first | exact BW.out | apply pw_below_drewN)⟩,⟨oP K2.out⟩,⟨oP K3.out⟩,⟨oP K4.out⟩⟩ ?_
      clear BW K2 K3 K4
      intro w13 ⟨BW,K2,K3,K4⟩
      replace K2:=aS (blk_drew K2.out)
      replace K3:=aS (blk_drew K3.out)
      replace K4:=aS (blk_drew K4.out)
      replace BW:=aS (below_drew1 BW.out)
      refine start_ (n:=10) (S:=fun w' => w'.cell? ⟨g2,0,none⟩ = some (.int .i64 a0_0) ∧ w'.cell? ⟨g2,1,none⟩ = some (.int .i64 a0_1) ∧ w'.cell? ⟨g2,2,none⟩ = some (.slice A0_2 l0_2.length c0_2) ∧ w'.cell? ⟨g3,0,none⟩ = some (.int .i64 a1_0) ∧ w'.cell? ⟨g3,1,none⟩ = some (.int .i64 a1_1) ∧ w'.cell? ⟨g3,2,none⟩ = some (.slice A1_2 l1_2.length c1_2)) (ds:=[]) (bA 10 0) (by kernel_rfl) rfl rfl ⟨xc K2,xc K2,xc K2,xc K3,xc K3,xc K3⟩ (fun hHeld => ?_)
      generalize w13.drew = w14 at K2 K3 K4 BW hHeld ⊢
      refine tB 0 18 1 ?_
      refine tB 2 20 5 ?_
      refine join_ (σ:=Option Addr × Nat × Option Addr × Nat × Nat) 2 (bA 10 255) (fun s_ => [(19,.agg #[.int .i64 b1,.int .i64 b2,.slice s_.1 lB.length s_.2.1]),(21,.tuple #[.agg #[.int .i64 p1,.int .i64 p2,.slice s_.2.2.1 lP.length s_.2.2.2.1],.bool p3]),(17,.tuple #[.agg #[.int .i64 p1,.int .i64 p2,.slice s_.2.2.1 lP.length s_.2.2.2.1],.bool p3]),(22,.agg #[.int .i64 p1,.int .i64 p2,.slice s_.2.2.1 lP.length s_.2.2.2.1]),(23,.bool p3),(6,.pointer (some ⟨s_.2.2.2.2,0,none⟩))]) (fun s_ w' => (w'.cell? ⟨g2,0,none⟩ = some (.int .i64 a0_0) ∧ w'.cell? ⟨g2,1,none⟩ = some (.int .i64 a0_1) ∧ w'.cell? ⟨g2,2,none⟩ = some (.slice A0_2 l0_2.length c0_2) ∧ w'.cell? ⟨g3,0,none⟩ = some (.int .i64 a1_0) ∧ w'.cell? ⟨g3,1,none⟩ = some (.int .i64 a1_1) ∧ w'.cell? ⟨g3,2,none⟩ = some (.slice A1_2 l1_2.length c1_2)) ∧ (w'.heap[g4]? = some (.cells #[.int .i64 0,.int .i64 0,.slice none 0 0] 32 (0,0))) ∧ (w'.heap[s_.2.2.2.2]? = some (.cells #[.int .i64 0,.int .i64 0,.slice none 0 0] 32 (0,0))) ∧ Kd.V k60 60 w' 0 (fun k_ => k_ ≠ s_.2.2.2.2) (.slice s_.2.2.1 lP.length s_.2.2.2.1) lP ∧ (w.heap.size ≤ s_.2.2.2.2) ∧ (g2 ≠ s_.2.2.2.2) ∧ (g3 ≠ s_.2.2.2.2) ∧ (g4 ≠ s_.2.2.2.2) ∧ Below w.heap.size w w') ?_ ?_
      rotate_left
      · intro hCont
        refine two_ (i:=1) (j:=7) (Ni:=some 19) (Nj:=some 6) (bA 10 7) (bA 10 133) rfl rfl rfl rfl (by kernel_rfl) (by decide) (by decide) (fun K hK => ?_) (fun K hK => ?_)
        · refine goesS Tryz.func20 #[.agg #[.int .i64 a0_0,.int .i64 a0_1,.slice A0_2 l0_2.length c0_2]] ?_;with_reducible refine (spec_l16Own.calls k a0_0 a0_1 _ _ l0_2 b1 b2 lB _ ?s1 Hc.out hO).mono ?_;(case s1 => exact Kd.C_below HC.out BW.out);rintro e w30 ⟨vB,rfl,hS,hb⟩;refine ⟨_,rfl,?_⟩;have hs1_:=hb.size;replace K2:=aS (blk_below K2.out hb);replace K3:=aS (blk_below K3.out hb);replace K4:=aS (blk_below K4.out hb);replace BW:=aS (dZ BW.out hb);obtain ⟨AB,cB,rfl⟩:=Kd.S_slice hS;obtain ⟨n0,n1,hn,HV⟩ : ∃ n0 n1,(n0 ≤ n1 ∧ n1 ≤ w30.heap.size) ∧ Aside0 (Kd.V k60 60 w30 0 (fun k_ => n0 ≤ k_ ∧ k_ < n1) (.slice AB lB.length cB) lB):=⟨_,_,⟨hs1_,Nat.le_refl _⟩,⟨Kd.V_mono (Kd.V_bound (Kd.S_V (dBnd hS))) (fun k_ hk_ => ⟨hk_.1,hk_.2⟩)⟩⟩;clear hS hb hs1_;refine hK.out _ _ (czc3 K2.out (cz3 K3.out)) (fun hHeld => ?_);clear hK K;refine norm_ (a':=?_) ?_ ?_;rotate_left;{show Act.put _ (some 19) _ = _;go_frame;(try simp only [i64_w,i32_w]);rfl}
          refine two_ (i:=3) (j:=7) (Ni:=some 21) (Nj:=some 6) (bA 10 15) (bA 10 135) rfl rfl rfl rfl (by kernel_rfl) (by decide) (by decide) (fun K hK => ?_) (fun K hK => ?_)
          · refine goesS Tryz.func19 #[.agg #[.int .i64 b1,.int .i64 b2,.slice AB lB.length cB],.agg #[.int .i64 a1_0,.int .i64 a1_1,.slice A1_2 l1_2.length c1_2]] ?_;with_reducible refine (spec_l16Put.calls k (fun k_ => n0 ≤ k_ ∧ k_ < n1) AB cB lB b1 b2 a1_0 a1_1 A1_2 c1_2 l1_2 p1 p2 lP p3 _ HV.out ?s1 Hc1.out hP).mono ?_;(case s1 => exact Kd.C_below HC1.out BW.out);rintro e w31 ⟨AP,cP,rfl,hV,hb⟩;refine ⟨_,rfl,?_⟩;have hs1_:=hb.size;replace K2:=aS (blk_below K2.out hb);replace K3:=aS (blk_below K3.out hb);replace K4:=aS (blk_below K4.out hb);replace BW:=aS (dZ BW.out hb);replace HV:=aS (Kd.V_below HV.out hb);replace HV:=aS (Kd.V_mono (show Kd.V k60 60 _ 0 _ _ _ from hV) (fun k_ hk_ => trivial : ∀ k_,_ → True));clear hV hb hs1_;refine hK.out _ _ (czc3 K2.out (cz3 K3.out)) (fun hHeld => ?_);clear hK K;refine norm_ (a':=?_) ?_ ?_;rotate_left;{show Act.put _ (some 21) _ = _;go_frame;(try simp only [i64_w,i32_w]);rfl}
            refine pB 4 17 31 ?_
            refine pB 5 22 63 ?_
            refine pB 6 23 127 ?_
            refine oneB 7 6 255 fun K hK => ?_
            refine box_step ?hg (N:=6) ?hd (cs:=#[.int .i64 0,.int .i64 0,.slice none 0 0]) (t:=32) ?hr ?_;(case hd => rfl);(case hg => rfl);(case hr => first | (go_simp;done) | (go_simp;rfl));intro g6 hg_ w32 hbx hb;have L6:=aS (Nat.le_trans (below_size BW.out) (Nat.le_of_eq hg_.symm));have n2_6:=aS (Nat.ne_of_lt (by rw [hg_];exact blk_lt K2.out : g2 < g6));have n3_6:=aS (Nat.ne_of_lt (by rw [hg_];exact blk_lt K3.out : g3 < g6));have n4_6:=aS (Nat.ne_of_lt (by rw [hg_];exact blk_lt K4.out : g4 < g6));replace HV:=aS (Kd.V_mono (Kd.V_bound HV.out) (fun k_ hk_ => (by rw [hg_];exact Nat.ne_of_lt hk_.2 : k_ ≠ g6)));replace K2:=aS (blk_below K2.out hb);replace K3:=aS (blk_below K3.out hb);replace K4:=aS (blk_below K4.out hb);replace BW:=aS (dZ BW.out hb);replace HV:=aS (Kd.V_below HV.out hb);have K6:=aS hbx;clear hg_ hb hbx;refine hK.out _ _ (czc3 K2.out (cz3 K3.out)) (fun hHeld => ?_);clear hK K;refine norm_ (a':=?_) ?_ ?_;rotate_left;{show Act.put _ (some 6) _ = _;go_frame;(try simp only [i64_w,i32_w]);rfl}
            exact norm_ (by simp only [putAll,Act.put,List.setIfInBounds_toArray,List.set_cons_zero,List.set_cons_succ]) (hCont (AB,cB,AP,cP,g6) _ ⟨hHeld,K4.out,K6.out,HV.out,L6.out,n2_6.out,n3_6.out,n4_6.out,BW.out⟩)
          · refine box_step ?hg (N:=6) ?hd (cs:=#[.int .i64 0,.int .i64 0,.slice none 0 0]) (t:=32) ?hr ?_;(case hd => rfl);(case hg => rfl);(case hr => first | (go_simp;done) | (go_simp;rfl));intro g6 hg_ w31 hbx hb;have L6:=aS (Nat.le_trans (below_size BW.out) (Nat.le_of_eq hg_.symm));have n2_6:=aS (Nat.ne_of_lt (by rw [hg_];exact blk_lt K2.out : g2 < g6));have n3_6:=aS (Nat.ne_of_lt (by rw [hg_];exact blk_lt K3.out : g3 < g6));have n4_6:=aS (Nat.ne_of_lt (by rw [hg_];exact blk_lt K4.out : g4 < g6));replace hn:=And.intro (by rw [hg_];exact hn.2 : n1 ≤ g6) hn;replace K2:=aS (blk_below K2.out hb);replace K3:=aS (blk_below K3.out hb);replace K4:=aS (blk_below K4.out hb);replace BW:=aS (dZ BW.out hb);replace HV:=aS (Kd.V_below HV.out hb);have K6:=aS hbx;clear hg_ hb hbx;refine hK.out _ _ (czc3 K2.out (cz3 K3.out)) (fun hHeld => ?_);clear hK K;refine norm_ (a':=?_) ?_ ?_;rotate_left;{show Act.put _ (some 6) _ = _;go_frame;(try simp only [i64_w,i32_w]);rfl}
            refine oneB 3 21 143 fun K hK => ?_
            refine goesS Tryz.func19 #[.agg #[.int .i64 b1,.int .i64 b2,.slice AB lB.length cB],.agg #[.int .i64 a1_0,.int .i64 a1_1,.slice A1_2 l1_2.length c1_2]] ?_;with_reducible refine (spec_l16Put.calls k (fun k_ => n0 ≤ k_ ∧ k_ < n1) AB cB lB b1 b2 a1_0 a1_1 A1_2 c1_2 l1_2 p1 p2 lP p3 _ HV.out ?s1 Hc1.out hP).mono ?_;(case s1 => exact Kd.C_below HC1.out BW.out);rintro e w32 ⟨AP,cP,rfl,hV,hb⟩;refine ⟨_,rfl,?_⟩;have hs1_:=hb.size;have K6p:=K6;replace K2:=aS (blk_below K2.out hb);replace K3:=aS (blk_below K3.out hb);replace K4:=aS (blk_below K4.out hb);replace BW:=aS (dZ BW.out hb);replace K6:=aS (blk_below K6.out hb);replace HV:=aS (Kd.V_below HV.out hb);replace HV:=aS (Kd.V_mono (show Kd.V k60 60 _ 0 _ _ _ from hV) (fun k_ hk_ => by have h3_:=hn;have h4_:=blk_lt K6p.out;omega : ∀ k_,_ → k_ ≠ g6));clear hV hb hs1_ K6p;refine hK.out _ _ (czc3 K2.out (cz3 K3.out)) (fun hHeld => ?_);clear hK K;refine norm_ (a':=?_) ?_ ?_;rotate_left;{show Act.put _ (some 21) _ = _;go_frame;(try simp only [i64_w,i32_w]);rfl}
            refine pB 4 17 159 ?_
            refine pB 5 22 191 ?_
            refine pB 6 23 255 ?_
            exact norm_ (by simp only [putAll,Act.put,List.setIfInBounds_toArray,List.set_cons_zero,List.set_cons_succ]) (hCont (AB,cB,AP,cP,g6) _ ⟨hHeld,K4.out,K6.out,HV.out,L6.out,n2_6.out,n3_6.out,n4_6.out,BW.out⟩)
        · refine box_step ?hg (N:=6) ?hd (cs:=#[.int .i64 0,.int .i64 0,.slice none 0 0]) (t:=32) ?hr ?_;(case hd => rfl);(case hg => rfl);(case hr => first | (go_simp;done) | (go_simp;rfl));intro g6 hg_ w30 hbx hb;have L6:=aS (Nat.le_trans (below_size BW.out) (Nat.le_of_eq hg_.symm));have n2_6:=aS (Nat.ne_of_lt (by rw [hg_];exact blk_lt K2.out : g2 < g6));have n3_6:=aS (Nat.ne_of_lt (by rw [hg_];exact blk_lt K3.out : g3 < g6));have n4_6:=aS (Nat.ne_of_lt (by rw [hg_];exact blk_lt K4.out : g4 < g6));replace K2:=aS (blk_below K2.out hb);replace K3:=aS (blk_below K3.out hb);replace K4:=aS (blk_below K4.out hb);replace BW:=aS (dZ BW.out hb);have K6:=aS hbx;clear hg_ hb hbx;refine hK.out _ _ (czc3 K2.out (cz3 K3.out)) (fun hHeld => ?_);clear hK K;refine norm_ (a':=?_) ?_ ?_;rotate_left;{show Act.put _ (some 6) _ = _;go_frame;(try simp only [i64_w,i32_w]);rfl}
          refine oneB 1 19 135 fun K hK => ?_
          refine goesS Tryz.func20 #[.agg #[.int .i64 a0_0,.int .i64 a0_1,.slice A0_2 l0_2.length c0_2]] ?_;with_reducible refine (spec_l16Own.calls k a0_0 a0_1 _ _ l0_2 b1 b2 lB _ ?s1 Hc.out hO).mono ?_;(case s1 => exact Kd.C_below HC.out BW.out);rintro e w31 ⟨vB,rfl,hS,hb⟩;refine ⟨_,rfl,?_⟩;have hs1_:=hb.size;have K6p:=K6;replace K2:=aS (blk_below K2.out hb);replace K3:=aS (blk_below K3.out hb);replace K4:=aS (blk_below K4.out hb);replace BW:=aS (dZ BW.out hb);replace K6:=aS (blk_below K6.out hb);obtain ⟨AB,cB,rfl⟩:=Kd.S_slice hS;obtain ⟨n0,n1,hn,HV⟩ : ∃ n0 n1,(g6 < n0 ∧ n0 ≤ n1 ∧ n1 ≤ w31.heap.size) ∧ Aside0 (Kd.V k60 60 w31 0 (fun k_ => n0 ≤ k_ ∧ k_ < n1) (.slice AB lB.length cB) lB):=⟨_,_,⟨blk_lt K6p.out,hs1_,Nat.le_refl _⟩,⟨Kd.V_mono (Kd.V_bound (Kd.S_V (dBnd hS))) (fun k_ hk_ => ⟨hk_.1,hk_.2⟩)⟩⟩;clear hS hb hs1_ K6p;refine hK.out _ _ (czc3 K2.out (cz3 K3.out)) (fun hHeld => ?_);clear hK K;refine norm_ (a':=?_) ?_ ?_;rotate_left;{show Act.put _ (some 19) _ = _;go_frame;(try simp only [i64_w,i32_w]);rfl}
          refine oneB 3 21 143 fun K hK => ?_
          refine goesS Tryz.func19 #[.agg #[.int .i64 b1,.int .i64 b2,.slice AB lB.length cB],.agg #[.int .i64 a1_0,.int .i64 a1_1,.slice A1_2 l1_2.length c1_2]] ?_;with_reducible refine (spec_l16Put.calls k (fun k_ => n0 ≤ k_ ∧ k_ < n1) AB cB lB b1 b2 a1_0 a1_1 A1_2 c1_2 l1_2 p1 p2 lP p3 _ HV.out ?s1 Hc1.out hP).mono ?_;(case s1 => exact Kd.C_below HC1.out BW.out);rintro e w32 ⟨AP,cP,rfl,hV,hb⟩;refine ⟨_,rfl,?_⟩;have hs1_:=hb.size;have K6p:=K6;replace K2:=aS (blk_below K2.out hb);replace K3:=aS (blk_below K3.out hb);replace K4:=aS (blk_below K4.out hb);replace BW:=aS (dZ BW.out hb);replace K6:=aS (blk_below K6.out hb);replace HV:=aS (Kd.V_below HV.out hb);replace HV:=aS (Kd.V_mono (show Kd.V k60 60 _ 0 _ _ _ from hV) (fun k_ hk_ => by have h3_:=hn;have h4_:=blk_lt K6p.out;omega : ∀ k_,_ → k_ ≠ g6));clear hV hb hs1_ K6p;refine hK.out _ _ (czc3 K2.out (cz3 K3.out)) (fun hHeld => ?_);clear hK K;refine norm_ (a':=?_) ?_ ?_;rotate_left;{show Act.put _ (some 21) _ = _;go_frame;(try simp only [i64_w,i32_w]);rfl}
          refine pB 4 17 159 ?_
          refine pB 5 22 191 ?_
          refine pB 6 23 255 ?_
          exact norm_ (by simp only [putAll,Act.put,List.setIfInBounds_toArray,List.set_cons_zero,List.set_cons_succ]) (hCont (AB,cB,AP,cP,g6) _ ⟨hHeld,K4.out,K6.out,HV.out,L6.out,n2_6.out,n3_6.out,n4_6.out,BW.out⟩)
      rintro ⟨AB,cB,AP,cP,g6⟩ w51 ⟨hS_,h0_,h1_,h2_,h3_,h4_,h5_,h6_,h7_⟩
      have K4:=aS (show w51.heap[g4]? = some (.cells #[.int .i64 0,.int .i64 0,.slice none 0 0] 32 (0,0)) from h0_)
      have K6:=aS (show w51.heap[g6]? = some (.cells #[.int .i64 0,.int .i64 0,.slice none 0 0] 32 (0,0)) from h1_)
      have HV:=aS (show Kd.V k60 60 w51 0 (fun k_ => k_ ≠ g6) (.slice AP lP.length cP) lP from h2_)
      have L6:=aS (show w.heap.size ≤ g6 from h3_)
      have n2_6:=aS (show g2 ≠ g6 from h4_)
      have n3_6:=aS (show g3 ≠ g6 from h5_)
      have n4_6:=aS (show g4 ≠ g6 from h6_)
      have BX:=aS (show Below w.heap.size w w51 from h7_)
      have hHeld : w51.cell? ⟨g2,0,none⟩ = some (.int .i64 a0_0) ∧ w51.cell? ⟨g2,1,none⟩ = some (.int .i64 a0_1) ∧ w51.cell? ⟨g2,2,none⟩ = some (.slice A0_2 l0_2.length c0_2) ∧ w51.cell? ⟨g3,0,none⟩ = some (.int .i64 a1_0) ∧ w51.cell? ⟨g3,1,none⟩ = some (.int .i64 a1_1) ∧ w51.cell? ⟨g3,2,none⟩ = some (.slice A1_2 l1_2.length c1_2):=hS_
      clear BW K2 K3 h0_ h1_ h2_ h3_ h4_ h5_ h6_ h7_ hS_
      refine norm_ (a':=?_) ?_ ?_
      rotate_left
      · simp only [putAll,Act.put,List.setIfInBounds_toArray,List.set_cons_zero,List.set_cons_succ];rfl
      refine zz3 K6.out ?_;intros
      refine one_ (i:=8) (N:=none) (bA 10 511) rfl rfl (by kernel_rfl) (by decide) (fun K hK => ?_)
      refine skip_ (w1:=?_) (by rfl) rfl ?_ ?_
      rotate_left
      · go_simp;rfl
      refine hK.out _ _ ⟨(oK hHeld.1 n2_6.out),(oK hHeld.2.1 n2_6.out),(oK hHeld.2.2.1 n2_6.out),(oK hHeld.2.2.2.1 n3_6.out),(oK hHeld.2.2.2.2.1 n3_6.out),(oK hHeld.2.2.2.2.2 n3_6.out)⟩ (fun hHeld => ?_)
      clear hK K
      replace BX:=aS (show Below w.heap.size w (((w51.setCell ⟨g6,0,none⟩ (.int .i64 p1)).setCell ⟨g6,1,none⟩ (.int .i64 p2)).setCell ⟨g6,2,none⟩ (.slice AP lP.length cP)) from by repeat (first | exact BX.out | refine below_set ?_ L6.out))
      replace K4:=aS (show (((w51.setCell ⟨g6,0,none⟩ (.int .i64 p1)).setCell ⟨g6,1,none⟩ (.int .i64 p2)).setCell ⟨g6,2,none⟩ (.slice AP lP.length cP)).heap[g4]? = some (.cells #[.int .i64 0,.int .i64 0,.slice none 0 0] 32 (0,0)) from oP K4.out)
      replace K6:=aS (show (((w51.setCell ⟨g6,0,none⟩ (.int .i64 p1)).setCell ⟨g6,1,none⟩ (.int .i64 p2)).setCell ⟨g6,2,none⟩ (.slice AP lP.length cP)).heap[g6]? = some (.cells #[.int .i64 p1,.int .i64 p2,.slice AP lP.length cP] 32 (0,0)) from oP K6.out)
      replace HV:=aS (show Kd.V k60 60 (((w51.setCell ⟨g6,0,none⟩ (.int .i64 p1)).setCell ⟨g6,1,none⟩ (.int .i64 p2)).setCell ⟨g6,2,none⟩ (.slice AP lP.length cP)) 0 (fun k_ => k_ ≠ g6) (.slice AP lP.length cP) lP from Kd.V_step HV.out (fun k_ hk_ _ => ((Below.heap_setCell _ ⟨g6,2,none⟩ _ k_ hk_).trans (Below.heap_setCell _ ⟨g6,1,none⟩ _ k_ hk_)).trans (Below.heap_setCell _ ⟨g6,0,none⟩ _ k_ hk_)))
      generalize ((w51.setCell ⟨g6,0,none⟩ (.int .i64 p1)).setCell ⟨g6,1,none⟩ (.int .i64 p2)).setCell ⟨g6,2,none⟩ (.slice AP lP.length cP) = w53 at BX K4 K6 HV hHeld ⊢
      refine pB 9 7 1023 ?_
      refine done_ (by kernel_rfl) ?_
      clear hHeld
      have BW:=BX
      clear BX
      refine zz3 K4.out ?_;intros
      refine zz3 K6.out ?_;intros
      by_cases hp : p3 = true
      · subst hp
        rw [if_pos rfl] at h
        replace h:=bE h;obtain ⟨⟨q1,q2,lQ⟩,hQ,h⟩:=h
        simp only [Option.some.injEq,Prod.mk.injEq] at h
        obtain ⟨rfl,rfl,rfl,rfl⟩:=h
        go_wp2_with (first | (go_at_call 20;go_loud ((with_reducible refine (spec_l16Own.calls k p1 p2 _ _ lP q1 q2 lQ _ (Kd.V_reads' HV.out).2.2 (Kd.V_reads' HV.out).2.1 hQ).mono ?_);rintro e w60 ⟨vQ,rfl,hS,hb⟩;have HS20:=aS hS;replace K4:=aS (blk_below K4.out hb);have BV:=BW;replace BW:=aS (dZ BW.out hb);obtain ⟨AQ,cQ,rfl⟩:=Kd.S_slice hS;refine zz3 K4.out ?_;intros;clear hS hb)))
        refine bodyPost_ret (results_ct rfl _ _ g4 32 #[.int .i64 q1,.int .i64 q2,.slice AQ lQ.length cQ] (0,0) _ rfl (oP K4.out) Tryz.underlying32 rfl (by kernel_rfl)) rfl ?_
        exact ⟨_,oE,dSets (Kd.S_lower HS20.out (below_size BV.out)) K4.out (by decide),by repeat (first | exact BW.out | refine below_set ?_ L4.out | apply pw_below_drewN)⟩
      · rw [if_neg hp] at h
        replace hp:=Bool.eq_false_iff.mpr hp
        subst hp
        simp only [Option.some.injEq,Prod.mk.injEq] at h
        obtain ⟨rfl,rfl,rfl,rfl⟩:=h
        go_wp2
        refine bodyPost_ret (results_ct rfl _ _ g4 32 #[.int .i64 0,.int .i64 0,.slice none 0 0] (0,0) _ rfl (oP K4.out) Tryz.underlying32 rfl (by kernel_rfl)) rfl ?_
        exact ⟨_,oE,Kd.S_nil _ _ _ _ _,by repeat (first | exact BW.out | refine below_set ?_ L4.out | apply pw_below_drewN)⟩
end Go.Proofs.YtjnifnhpnccpcaaGreat.J
