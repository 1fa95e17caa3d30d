-- Made by this session's program gprint.py out of the translation. Not trusted: Lean checks it.
import Derived.Test.YtjnifnhpnccpcaaGreatJx0
import Derived.Test.YtjnifnhpnccpcaaGreatJx3
import Derived.Test.YtjnifnhpnccpcaaGreatJx8
namespace Go.Proofs.YtjnifnhpnccpcaaGreat.J
open Go.RowKit Go.Proofs.YtjnifnhpnccpcaaGreatW.PrintWords Go.Proofs.YtjnifnhpnccpcaaGreatW.PrintLast Go.Proofs.YtjnifnhpnccpcaaGreatW.PrintMore
attribute [local go_sem] max2_int min2_int max_two min_two max_three min_three max_four min_four
set_option linter.unusedVariables false
set_option linter.unusedSimpArgs false
def spec_l15Skips.j0 : Nat → List (S68) → Int → Bool → Option (List Bool)
 | 0,_,_,_ => none
 | k + 1,x0,x3,x16 => if x16 = true then (if 0 ≤ (wrap64 (x3 - 1)) then (if (wrap64 (x3 - 1)) ≤ (x0.length : Int) then ((spec_l14Dead.f k (x0.take ((wrap64 (x3 - 1)) : Int).toNat)).bind fun t107 => (if t107.length < 140737488355328 then (some (t107 ++ [false])) else (none))) else (none)) else (none)) else ((spec_l14Dead.f k x0).bind fun t113 => (some t113))
def spec_l15Skips.f (k : Nat) (l0 : List (S68)) : Option (List Bool):=if (l0.length : Int) > 0 then (if 0 ≤ (wrap64 ((l0.length : Int) - 1)) then (if (wrap64 ((l0.length : Int) - 1)) < (l0.length : Int) then ((spec_l14Straight.f k ((rd_T68 l0 (wrap64 ((l0.length : Int) - 1))).f0) ((rd_T68 l0 (wrap64 ((l0.length : Int) - 1))).f1) ((rd_T68 l0 (wrap64 ((l0.length : Int) - 1))).f2) ((rd_T68 l0 (wrap64 ((l0.length : Int) - 1))).f3.f0) ((rd_T68 l0 (wrap64 ((l0.length : Int) - 1))).f3.f1) ((rd_T68 l0 (wrap64 ((l0.length : Int) - 1))).f3.f2) ((rd_T68 l0 (wrap64 ((l0.length : Int) - 1))).f4)).bind fun t102 => (spec_l15Skips.j0 k l0 (l0.length : Int) (!t102))) else (none)) else (none)) else (spec_l15Skips.j0 k l0 (l0.length : Int) false)
set_option maxHeartbeats 8000000 in
set_option maxRecDepth 100000 in
theorem spec_l15Skips.calls (k : Nat) (A0 : Option Addr) (c0 : Nat) (l0 : List (S68)) (r : List Bool) (w : World) (hr0 : Kd.C k68 w A0 l0.length l0) (hc0 : l0.length ≤ c0) (h : spec_l15Skips.f k l0 = some r) :
  Calls Tryz.prog 38 #[.slice A0 l0.length c0] w fun e w' => ∃ v0_ : Value,e = .returned (v0_) ∧ Kd.R Kd.bool 4 w' w.heap.size (fun _ => True) v0_ r ∧ Below w.heap.size w w':=by
 have hu68:=Tryz.underlying68;have HR0:=aS hr0;have HC0:=aS hc0;clear hr0 hc0;have HB:=aS (Below.refl w.heap.size w);unfold spec_l15Skips.f at h;have H:=h;clear h;have HC2:=aS H;clear H;go_enter Tryz.func38,Tryz.ntmps38;go_upto_region 2 with (fail);go_cut [16] (fun v16 wc => ∃ (kq : Nat) (x16_1 : Bool),v16 = .bool x16_1 ∧ Aside0 (spec_l15Skips.j0 kq l0 (l0.length : Int) x16_1 = some r) ∧ Aside0 (kq ≤ k) ∧ Aside0 (Below w.heap.size w wc))
 case first =>
  have H:=HC2.out;clear HC2;by_cases c3 : (l0.length : Int) > 0
  ·
   rw [if_pos c3] at H;have c3b0:=decide_eq_true c3;have c3b1 : decide (0 < l0.length) = true:=decide_eq_true (by omega);clear c3;(first | rw [c3b0] | (simp only [i64_w,i32_w];rw [c3b0]) | skip);obtain ⟨ji4,hji4⟩ : ∃ j_ : Int,(wrap64 ((l0.length : Int) - 1)) = j_:=⟨_,rfl⟩;replace H : (if 0 ≤ (ji4) then (if (ji4) < (l0.length : Int) then ((spec_l14Straight.f k ((rd_T68 l0 (ji4)).f0) ((rd_T68 l0 (ji4)).f1) ((rd_T68 l0 (ji4)).f2) ((rd_T68 l0 (ji4)).f3.f0) ((rd_T68 l0 (ji4)).f3.f1) ((rd_T68 l0 (ji4)).f3.f2) ((rd_T68 l0 (ji4)).f4)).bind fun t102 => (spec_l15Skips.j0 k l0 (l0.length : Int) (!t102))) else (none)) else (none)) = some r:=by first | (rw [hji4] at H;exact H) | (simp only [hji4] at H ⊢;exact H)
   have hji4w : (IntKind.i64.wrap ((l0.length : Int) - 1)) = ji4:=(i64_w _).trans hji4;by_cases c5 : 0 ≤ (ji4)
   ·
    rw [if_pos c5] at H;have c5b0:=decide_eq_true c5;clear c5;by_cases c6 : (ji4) < (l0.length : Int)
    ·
     rw [if_pos c6] at H;have c6b0:=decide_eq_true c6;clear c6;obtain ⟨t102,A7,H⟩:=bA_ H;have H':=aS H;clear H;have p101 : 0 ≤ ((ji4) : Int):=oZ;have q101 : (ji4) < (l0.length : Int):=oZ;obtain ⟨ad101,e101,hx101_0,hx101_1,hx101_2,hx101_3,hx101_4,hx101_5,hx101_6⟩:=at_T68 HR0.out (ji4) p101 q101;cases e101
     replace hx101_0:=oJ HB hx101_0;replace hx101_1:=oJ HB hx101_1;replace hx101_2:=oJ HB hx101_2;replace hx101_3:=oJ HB hx101_3;replace hx101_4:=oJ HB hx101_4;replace hx101_5:=oJ HB hx101_5;replace hx101_6:=oJ HB hx101_6;replace p101:=eq_true p101;replace q101:=eq_true q101;go_wp2_with (first | (go_at_call 37;(with_reducible refine (spec_l14Straight.calls k ((rd_T68 l0 (ji4)).f0) ((rd_T68 l0 (ji4)).f1) ((rd_T68 l0 (ji4)).f2) ((rd_T68 l0 (ji4)).f3.f0) ((rd_T68 l0 (ji4)).f3.f1) ((rd_T68 l0 (ji4)).f3.f2) ((rd_T68 l0 (ji4)).f4) t102 _ A7.out).mono ?_);rintro e w8 ⟨rfl,hb⟩;refine mk1 (xL hb) ?_;clear HB;intro HB));go_meet;case rel => exact ⟨_,(!t102),oE,(by first | exact H' | (rw [hji10];exact H') | (rw [hji4];exact H')),⟨by first | omega | exact Nat.le_refl _⟩,⟨oL⟩⟩
    · rw [if_neg c6] at H;exact absurd H (by simp)
   · rw [if_neg c5] at H;exact absurd H (by simp)
  · rw [if_neg c3] at H;have c3b0:=decide_eq_false c3;have c3b1 : decide (0 < l0.length) = false:=decide_eq_false (by omega);clear c3;(first | rw [c3b0] | (simp only [i64_w,i32_w];rw [c3b0]) | skip);have H':=aS H;clear H;go_wp2;go_meet;case rel => exact ⟨_,(false),oE,(by first | exact H' | (rw [hji10];exact H') | (rw [hji4];exact H')),⟨by first | omega | exact Nat.le_refl _⟩,⟨oL⟩⟩
 case rest =>
  clear HC2;obtain ⟨kq,x16_1,rfl,HA,HJ1,HB⟩:=hcut;cases kq with
  | zero => exact absurd HA.out (by simp [spec_l15Skips.j0])
  | succ kj1 =>
   have H:=HA.out;clear HA;simp only [spec_l15Skips.j0] at H;by_cases c9 : x16_1 = true
   ·
    subst c9;replace H:=iT H;obtain ⟨ji10,hji10⟩ : ∃ j_ : Int,(wrap64 ((l0.length : Int) - 1)) = j_:=⟨_,rfl⟩;replace H : (if 0 ≤ (ji10) then (if (ji10) ≤ (l0.length : Int) then ((spec_l14Dead.f kj1 (l0.take ((ji10) : Int).toNat)).bind fun t107 => (if t107.length < 140737488355328 then (some (t107 ++ [false])) else (none))) else (none)) else (none)) = some r:=by first | (rw [hji10] at H;exact H) | (simp only [hji10] at H ⊢;exact H)
    have hji10w : (IntKind.i64.wrap ((l0.length : Int) - 1)) = ji10:=(i64_w _).trans hji10;by_cases c11 : 0 ≤ (ji10)
    ·
     rw [if_pos c11] at H;have c11b0:=eq_true c11;have c11b1:=decide_eq_true c11;clear c11;by_cases c12 : (ji10) ≤ (l0.length : Int)
     ·
      rw [if_pos c12] at H;have c12b0:=eq_true c12;have c12b1:=decide_eq_true c12;clear c12;obtain ⟨y103,hy103⟩ : ∃ y_ : List (S68),y_ = (l0.take ((ji10) : Int).toNat):=⟨_,rfl⟩;rw [← hy103] at H
      have Ny103:=aS hy103;clear hy103;obtain ⟨t107,A13,H⟩:=bA_ H;by_cases c14 : t107.length < 140737488355328
      ·
       rw [if_pos c14] at H;have LMc14:=aS c14;clear c14;obtain ⟨y110,hy110⟩ : ∃ y_ : List Bool,y_ = (t107 ++ [false]):=⟨_,rfl⟩;rw [← hy110] at H
       have Ny110:=aS hy110;clear hy110;obtain rfl:=Option.some.inj H;have q15 : ((ji10) : Int) ≤ ((l0.length : Int) : Int):=oZ;obtain ⟨i015,hi015,_,hsz15,_⟩:=info_parts info68;have hroom15 : l0.length ≤ c0:=HC0.out;have hC15 : Kd.C k68 _ A0 l0.length l0:=HR0.out;have hcut15:=cut_to (P:=Tryz.prog) 62 68 .i64 Tryz.underlying62 hi015 A0 l0.length c0 (ji10) (oZ) q15 hroom15;have hr15:=Kd.C_take (m:=((ji10) : Int).toNat) hC15 (by omega);have hy15 : y103.length = ((ji10) : Int).toNat:=(by rw [Ny103.out,List.length_take];omega);rw [← Ny103.out] at hr15;rw [← hy15] at hcut15;have HR106:=aS hr15;have HC106:=aS (show y103.length ≤ c0 from by omega);clear hr15 hC15 hroom15 hi015 hsz15;have KY15:=aS hy15;clear hy15;replace q15:=eq_true q15;go_wp2_with (first | ((with_reducible refine gC 66 rfl ?_);refine gN Tryz.func66 #[.slice A0 y103.length c0] ?_;(with_reducible refine (spec_l14Dead.calls kj1 _ _ y103 t107 _ ?side1 ?side2 A13.out).mono ?_);(case side1 => exact oC HR106.out);(case side2 => exact HC106.out);rintro e w16 ⟨v108,rfl,ho0,hb⟩;refine ⟨_,rfl,?_⟩;refine mk2 (Kd.R_lower ho0 (below_size oL)) (xL hb) ?_;clear HB;intro HO109 HB) | ((with_reducible refine gate_builtin (b:=.append) (xs:=#[.tmp 21,.tmp 22]) rfl ?_);at_builtin;refine Kd.R_append Kd.bool (w0:=w) w.heap.size rfl (.tmp 21) (.tmp 22) 74 4 (.bool false) 1 rfl Tryz.underlying74 info4 rfl (by decide) (by omega) v108 t107 false [.bool false] (fun _ => True) (fun _ => False) rfl rfl ?aP (fun _ hk => hk.elim) ?aF ?aO ?aB ?aS ?aL ?_;(case aP => exact rfl);(case aB => exact oL);(case aF => exact (fun _ _ => trivial));(case aO => exact (oR HO109.out));(case aS => exact (below_size oL));(case aL => have:=LMc14.out;omega);intro v111 w17 ho hb hg hat;rw [← Ny110.out] at ho;refine mk2 (hb) (ho) ?_;clear HB HO109;intro HB HO112;clear ho hb hg hat));go_ret;exact ⟨_,by first | rfl | (simp [errW_none,errW_some] <;> rfl) | (simp only [← hji10];first | rfl | (simp [errW_none,errW_some] <;> rfl)) | (simp [*,errW_none,errW_some] <;> rfl),by (with_reducible repeat (first | apply Kd.R_alloc | apply Kd.R_drewN | apply Kd.R_drew));exact HO112.out,oL⟩
      · rw [if_neg c14] at H;exact absurd H (by simp)
     · rw [if_neg c12] at H;exact absurd H (by simp)
    · rw [if_neg c11] at H;exact absurd H (by simp)
   ·
    replace c9:=Bool.eq_false_iff.mpr c9;subst c9;replace H:=iF H;obtain ⟨t113,A18,H⟩:=bA_ H;obtain rfl:=Option.some.inj H;go_wp2_with (first | ((with_reducible refine gC 66 rfl ?_);refine gN Tryz.func66 #[.slice A0 l0.length c0] ?_;(with_reducible refine (spec_l14Dead.calls kj1 _ _ l0 t113 _ ?side1 ?side2 A18.out).mono ?_);(case side1 => exact oC HR0.out);(case side2 => exact HC0.out);rintro e w19 ⟨v114,rfl,ho0,hb⟩;refine ⟨_,rfl,?_⟩;refine mk2 (Kd.R_lower ho0 (below_size oL)) (xL hb) ?_;clear HB;intro HO115 HB));go_ret;exact ⟨_,oE,by (with_reducible repeat (first | apply Kd.R_alloc | apply Kd.R_drewN | apply Kd.R_drew));exact HO115.out,oL⟩
end Go.Proofs.YtjnifnhpnccpcaaGreat.J
