-- Made by this session's program gprint.py out of the translation. Not trusted: Lean checks it.
import Derived.Test.YtjnifnhpnccpcaaGreatJx0
import Derived.Test.YtjnifnhpnccpcaaGreatJx3
import Derived.Test.YtjnifnhpnccpcaaGreatJx4
namespace Go.Proofs.YtjnifnhpnccpcaaGreat.J
open Go.RowKit Go.Proofs.YtjnifnhpnccpcaaGreatW.PrintWords Go.Proofs.YtjnifnhpnccpcaaGreatW.PrintLast Go.Proofs.YtjnifnhpnccpcaaGreatW.PrintMore
attribute [local go_sem] max2_int min2_int max_two min_two max_three min_three max_four min_four
set_option linter.unusedVariables false
set_option linter.unusedSimpArgs false
def spec_l7Encode.f (a0_0 : Int) (a0_1 : Int) (a0_2 : Int) (a0_3 : Int) (a0_4 : Int) (a0_5 : Int) (a0_6 : Int) : Option (List Int):=(some (([Go.bits .or .i64 (Go.bits .or .i64 (Go.bits .or .i64 (Go.bits .or .i64 (Go.bits .or .i64 (wrap64 (a0_0 * 2048)) (wrap64 ((wrap64 (a0_1 - 1)) * 1024))) (wrap64 (a0_2 * 256))) (wrap64 (a0_3 * 32))) (wrap64 (a0_4 * 8))) a0_6] : List Int) : List Int)).bind fun y102 => ((spec_l6Ext.f a0_3).bind fun t105 => (if t105 = true then (if y102.length < 17592186044416 then (some (y102 ++ [a0_5])) else (none)) else (some y102)))
set_option maxHeartbeats 8000000 in
set_option maxRecDepth 100000 in
theorem spec_l7Encode.calls (a0_0 : Int) (a0_1 : Int) (a0_2 : Int) (a0_3 : Int) (a0_4 : Int) (a0_5 : Int) (a0_6 : Int) (r : List Int) (w : World) (h : spec_l7Encode.f a0_0 a0_1 a0_2 a0_3 a0_4 a0_5 a0_6 = some r) :
  Calls Tryz.prog 36 #[.agg #[.int .i64 a0_0,.int .i64 a0_1,.int .i64 a0_2,.int .i64 a0_3,.int .i64 a0_4,.int .i64 a0_5,.int .i64 a0_6]] w fun e w' => ∃ v0_ : Value,e = .returned (v0_) ∧ Kd.R (Kd.int .i64) 3 w' w.heap.size (fun _ => True) v0_ r ∧ Below w.heap.size w w':=by
 have hu68:=Tryz.underlying68;have HB:=aS (Below.refl w.heap.size w);unfold spec_l7Encode.f at h;have H:=h;clear h;obtain ⟨y102,hy102,H⟩:=bS H
 have Ny102:=aS hy102;clear hy102;obtain ⟨t105,A2,H⟩:=bA_ H;by_cases c3 : t105 = true
 ·
  subst c3;replace H:=iT H;by_cases c4 : y102.length < 17592186044416
  ·
   rw [if_pos c4] at H;have LMc4:=aS c4;clear c4;obtain ⟨y106,hy106⟩ : ∃ y_ : List Int,y_ = (y102 ++ [a0_5]):=⟨_,rfl⟩;rw [← hy106] at H
   have Ny106:=aS hy106;clear hy106;obtain rfl:=Option.some.inj H;go_enter Tryz.func36,Tryz.ntmps36;go_wp2_with (first | ((with_reducible refine gD 1 rfl ?_);refine bX (w:=w) #[.int .i64 a0_0,.int .i64 a0_1,.int .i64 a0_2,.int .i64 a0_3,.int .i64 a0_4,.int .i64 a0_5,.int .i64 a0_6] 68 ?_;clear HB;intro gb101 w5 HB BK101 GW101;refine zz7 BK101.out ?_;intros) | ((with_reducible refine gate_dst (N:=29) rfl ?_);refine Kd.R_lit (Kd.int .i64) _ 3 ?hg (N:=29) ?hd (xs:=([Go.bits .or .i64 (Go.bits .or .i64 (Go.bits .or .i64 (Go.bits .or .i64 (Go.bits .or .i64 (wrap64 (a0_0 * 2048)) (wrap64 ((wrap64 (a0_1 - 1)) * 1024))) (wrap64 (a0_2 * 256))) (wrap64 (a0_3 * 32))) (wrap64 (a0_4 * 8))) a0_6] : List Int)) (inner:=[.int .i64 (Go.bits .or .i64 (Go.bits .or .i64 (Go.bits .or .i64 (Go.bits .or .i64 (Go.bits .or .i64 (wrap64 (a0_0 * 2048)) (wrap64 ((wrap64 (a0_1 - 1)) * 1024))) (wrap64 (a0_2 * 256))) (wrap64 (a0_3 * 32))) (wrap64 (a0_4 * 8))) a0_6)]) (ok:=fun _ => True) (okp:=fun _ => True) ?hr ?hp (fun _ hk => hk) trivial (Below.refl _ _) (Nat.le_refl _) (by simp) ?_;(case hd => rfl);(case hg => rfl);(case hr => first | (go_simp;done) | (go_simp;rfl));(case hp => exact (Reps.one (show Kd.M (Kd.int .i64) _ _ _ (Go.bits .or .i64 (Go.bits .or .i64 (Go.bits .or .i64 (Go.bits .or .i64 (Go.bits .or .i64 (wrap64 (a0_0 * 2048)) (wrap64 ((wrap64 (a0_1 - 1)) * 1024))) (wrap64 (a0_2 * 256))) (wrap64 (a0_3 * 32))) (wrap64 (a0_4 * 8))) a0_6) [.int .i64 (Go.bits .or .i64 (Go.bits .or .i64 (Go.bits .or .i64 (Go.bits .or .i64 (Go.bits .or .i64 (wrap64 (a0_0 * 2048)) (wrap64 ((wrap64 (a0_1 - 1)) * 1024))) (wrap64 (a0_2 * 256))) (wrap64 (a0_3 * 32))) (wrap64 (a0_4 * 8))) a0_6)] from rfl) (Reps.none _ _)));intro v103 w7 ho8 hb hg_ hnew_;clear hg_ hnew_;(first | rw [← Ny102.out] at ho8 | (simp only [Int.reduceToNat] at ho8;rw [← Ny102.out] at ho8));refine mk3 (Kd.R_lower ho8 (below_size oL)) (xB BK101 hb) (xL hb) ?_;clear BK101 HB;intro HO104 BK101 HB;clear hb ho8;refine zz7 BK101.out ?_;intros) | ((with_reducible refine gate_callee (f:=65) rfl ?_);refine goesQ (some 33) Tryz.func65 #[.int .i64 a0_3] (spec_l6Ext.calls a0_3 true _ A2.out) fun nd => ?_) | ((with_reducible refine gate_builtin (b:=.append) (xs:=#[.tmp 34,.tmp 38]) rfl ?_);at_builtin;refine Kd.R_append (Kd.int .i64) (w0:=w) w.heap.size rfl (.tmp 34) (.tmp 38) 72 3 (.int .i64 0) 8 rfl Tryz.underlying72 info3 rfl (by decide) (by omega) v103 y102 a0_5 [.int .i64 a0_5] (fun _ => True) (fun _ => False) rfl rfl ?aP (fun _ hk => hk.elim) ?aF ?aO ?aB ?aS ?aL ?_;(case aP => exact rfl);(case aB => exact oL);(case aF => exact (fun _ _ => trivial));(case aO => exact (oR HO104.out));(case aS => exact (below_size oL));(case aL => have:=LMc4.out;omega);intro v107 w10 ho hb hg hat;rw [← Ny106.out] at ho;refine mk3 (blk_grown (g:=gb101) (o:=.cells #[.int .i64 a0_0,.int .i64 a0_1,.int .i64 a0_2,.int .i64 a0_3,.int .i64 a0_4,.int .i64 a0_5,.int .i64 a0_6] 68 (0,0)) (oB BK101.out) hg (Kd.R_ne HO104.out BK101.out (by decide))) (hb) (ho) ?_;clear BK101 HB HO104;intro BK101 HB HO108;clear ho hb hg hat));go_ret;exact ⟨_,oE,by (with_reducible repeat (first | apply Kd.R_alloc | apply Kd.R_drewN | apply Kd.R_drew));exact HO108.out,oL⟩
  · rw [if_neg c4] at H;exact absurd H (by simp)
 ·
  replace c3:=Bool.eq_false_iff.mpr c3;subst c3;replace H:=iF H;obtain rfl:=Option.some.inj H;go_enter Tryz.func36,Tryz.ntmps36;go_wp2_with (first | ((with_reducible refine gD 1 rfl ?_);refine bX (w:=w) #[.int .i64 a0_0,.int .i64 a0_1,.int .i64 a0_2,.int .i64 a0_3,.int .i64 a0_4,.int .i64 a0_5,.int .i64 a0_6] 68 ?_;clear HB;intro gb101 w11 HB BK101 GW101;refine zz7 BK101.out ?_;intros) | ((with_reducible refine gate_dst (N:=29) rfl ?_);refine Kd.R_lit (Kd.int .i64) _ 3 ?hg (N:=29) ?hd (xs:=([Go.bits .or .i64 (Go.bits .or .i64 (Go.bits .or .i64 (Go.bits .or .i64 (Go.bits .or .i64 (wrap64 (a0_0 * 2048)) (wrap64 ((wrap64 (a0_1 - 1)) * 1024))) (wrap64 (a0_2 * 256))) (wrap64 (a0_3 * 32))) (wrap64 (a0_4 * 8))) a0_6] : List Int)) (inner:=[.int .i64 (Go.bits .or .i64 (Go.bits .or .i64 (Go.bits .or .i64 (Go.bits .or .i64 (Go.bits .or .i64 (wrap64 (a0_0 * 2048)) (wrap64 ((wrap64 (a0_1 - 1)) * 1024))) (wrap64 (a0_2 * 256))) (wrap64 (a0_3 * 32))) (wrap64 (a0_4 * 8))) a0_6)]) (ok:=fun _ => True) (okp:=fun _ => True) ?hr ?hp (fun _ hk => hk) trivial (Below.refl _ _) (Nat.le_refl _) (by simp) ?_;(case hd => rfl);(case hg => rfl);(case hr => first | (go_simp;done) | (go_simp;rfl));(case hp => exact (Reps.one (show Kd.M (Kd.int .i64) _ _ _ (Go.bits .or .i64 (Go.bits .or .i64 (Go.bits .or .i64 (Go.bits .or .i64 (Go.bits .or .i64 (wrap64 (a0_0 * 2048)) (wrap64 ((wrap64 (a0_1 - 1)) * 1024))) (wrap64 (a0_2 * 256))) (wrap64 (a0_3 * 32))) (wrap64 (a0_4 * 8))) a0_6) [.int .i64 (Go.bits .or .i64 (Go.bits .or .i64 (Go.bits .or .i64 (Go.bits .or .i64 (Go.bits .or .i64 (wrap64 (a0_0 * 2048)) (wrap64 ((wrap64 (a0_1 - 1)) * 1024))) (wrap64 (a0_2 * 256))) (wrap64 (a0_3 * 32))) (wrap64 (a0_4 * 8))) a0_6)] from rfl) (Reps.none _ _)));intro v103 w13 ho14 hb hg_ hnew_;clear hg_ hnew_;(first | rw [← Ny102.out] at ho14 | (simp only [Int.reduceToNat] at ho14;rw [← Ny102.out] at ho14));refine mk3 (Kd.R_lower ho14 (below_size oL)) (xB BK101 hb) (xL hb) ?_;clear BK101 HB;intro HO104 BK101 HB;clear hb ho14;refine zz7 BK101.out ?_;intros) | ((with_reducible refine gate_callee (f:=65) rfl ?_);refine goesQ (some 33) Tryz.func65 #[.int .i64 a0_3] (spec_l6Ext.calls a0_3 false _ A2.out) fun nd => ?_));go_ret;exact ⟨_,oE,by (with_reducible repeat (first | apply Kd.R_alloc | apply Kd.R_drewN | apply Kd.R_drew));exact HO104.out,oL⟩
def spec_l1Flag.f (a0 : Bool) (a1 : Int) : Option (Int):=if a0 = true then (some a1) else (some 0)
set_option maxHeartbeats 8000000 in
set_option maxRecDepth 100000 in
theorem spec_l1Flag.calls (a0 : Bool) (a1 : Int) (r : Int) (w : World) (h : spec_l1Flag.f a0 a1 = some r) :
  Calls Tryz.prog 85 #[.bool a0,.int .i64 a1] w fun e w' => e = .returned (.int .i64 r) ∧ Drawn0 w w':=by
 unfold spec_l1Flag.f at h;have H:=h;clear h;by_cases c3 : a0 = true;{subst c3;replace H:=iT H;obtain rfl:=Option.some.inj H;go_enter Tryz.func85,Tryz.ntmps85;go_wp2;go_ret;exact ⟨by first | rfl | (simp;done) | (simp [*];done),by repeat (first | exact Drawn0.refl _ | apply Drawn0.step)⟩};{replace c3:=Bool.eq_false_iff.mpr c3;subst c3;replace H:=iF H;obtain rfl:=Option.some.inj H;go_enter Tryz.func85,Tryz.ntmps85;go_wp2;go_ret;exact ⟨by first | rfl | (simp;done) | (simp [*];done),by repeat (first | exact Drawn0.refl _ | apply Drawn0.step)⟩}
mutual
def spec_l14Sets.j0 : Nat → Int → Bool → Int → Int → Int → Int → Int → Int → Int → Option (Int)
 | 0,_,_,_,_,_,_,_,_,_ => none
 | k + 1,x4,x5,x102000,x102001,x102002,x102003,x102004,x102005,x102006 => if x5 = true then (some 15) else (if x4 = 3 then (spec_l14Sets.j1 k x4 (x4 == 3) x102000 x102001 x102002 x102003 x102004 x102005 x102006) else (spec_l14Sets.j1 k x4 (x4 == 4) x102000 x102001 x102002 x102003 x102004 x102005 x102006))
def spec_l14Sets.j1 : Nat → Int → Bool → Int → Int → Int → Int → Int → Int → Int → Option (Int)
 | 0,_,_,_,_,_,_,_,_,_ => none
 | k + 1,x4,x14,x102000,x102001,x102002,x102003,x102004,x102005,x102006 => if x14 = true then (some 31) else (if x4 = 11 then ((spec_l1Flag.f (x102006 == 1) 16).bind fun t102 => (some (Go.bits .or .i64 15 t102))) else (if x4 = 12 then (if x102006 = 4 then ((spec_l1Flag.f false 16).bind fun t103 => (some (Go.bits .or .i64 15 t103))) else ((spec_l1Flag.f (x102006 != 5) 16).bind fun t104 => (some (Go.bits .or .i64 15 t104)))) else (if x4 = 18 then (some 27) else (if x4 = 15 then (if x102006 = 1 then ((spec_l1Flag.f true 31).bind fun t105 => ((spec_l1Flag.f (decide (x102006 ≥ 5)) 15).bind fun t106 => (some (Go.bits .or .i64 t105 t106)))) else ((spec_l1Flag.f (x102006 == 3) 31).bind fun t107 => ((spec_l1Flag.f (decide (x102006 ≥ 5)) 15).bind fun t108 => (some (Go.bits .or .i64 t107 t108))))) else (if x4 = 19 then ((spec_l1Flag.f (x102006 == 0) 31).bind fun t109 => (some t109)) else (some 0))))))
end
def spec_l14Sets.f (k : Nat) (a0_0 : Int) (a0_1 : Int) (a0_2 : Int) (a0_3 : Int) (a0_4 : Int) (a0_5 : Int) (a0_6 : Int) : Option (Int):=if a0_0 = 1 then (spec_l14Sets.j0 k a0_0 (a0_0 == 1) a0_0 a0_1 a0_2 a0_3 a0_4 a0_5 a0_6) else (if a0_0 = 2 then (spec_l14Sets.j0 k a0_0 (a0_0 == 2) a0_0 a0_1 a0_2 a0_3 a0_4 a0_5 a0_6) else (if a0_0 = 5 then (spec_l14Sets.j0 k a0_0 (a0_0 == 5) a0_0 a0_1 a0_2 a0_3 a0_4 a0_5 a0_6) else (if a0_0 = 6 then (spec_l14Sets.j0 k a0_0 (a0_0 == 6) a0_0 a0_1 a0_2 a0_3 a0_4 a0_5 a0_6) else (if a0_0 = 7 then (spec_l14Sets.j0 k a0_0 (a0_0 == 7) a0_0 a0_1 a0_2 a0_3 a0_4 a0_5 a0_6) else (if a0_0 = 8 then (spec_l14Sets.j0 k a0_0 (a0_0 == 8) a0_0 a0_1 a0_2 a0_3 a0_4 a0_5 a0_6) else (if a0_0 = 16 then (spec_l14Sets.j0 k a0_0 (a0_0 == 16) a0_0 a0_1 a0_2 a0_3 a0_4 a0_5 a0_6) else (spec_l14Sets.j0 k a0_0 (a0_0 == 17) a0_0 a0_1 a0_2 a0_3 a0_4 a0_5 a0_6)))))))
set_option maxHeartbeats 8000000 in
set_option maxRecDepth 100000 in
theorem spec_l14Sets.calls (k : Nat) (a0_0 : Int) (a0_1 : Int) (a0_2 : Int) (a0_3 : Int) (a0_4 : Int) (a0_5 : Int) (a0_6 : Int) (r : Int) (w : World) (h : spec_l14Sets.f k a0_0 a0_1 a0_2 a0_3 a0_4 a0_5 a0_6 = some r) :
  Calls Tryz.prog 82 #[.agg #[.int .i64 a0_0,.int .i64 a0_1,.int .i64 a0_2,.int .i64 a0_3,.int .i64 a0_4,.int .i64 a0_5,.int .i64 a0_6]] w fun e w' => e = .returned (.int .i64 r) ∧ Below w.heap.size w w':=by
 have hu68:=Tryz.underlying68;have HB:=aS (Below.refl w.heap.size w);unfold spec_l14Sets.f at h;have H:=h;clear h;have HC2:=aS H;clear H;go_enter Tryz.func82,Tryz.ntmps82;go_upto_if 5 with (first | ((with_reducible refine gD 1 rfl ?_);refine bX (w:=w) #[.int .i64 a0_0,.int .i64 a0_1,.int .i64 a0_2,.int .i64 a0_3,.int .i64 a0_4,.int .i64 a0_5,.int .i64 a0_6] 68 ?_;clear HB;intro gb101 w3 HB BK101 GW101;refine zz7 BK101.out ?_;intros));repeat (go_quiet (first | ((with_reducible refine gD 1 rfl ?_);refine bX (w:=w) #[.int .i64 a0_0,.int .i64 a0_1,.int .i64 a0_2,.int .i64 a0_3,.int .i64 a0_4,.int .i64 a0_5,.int .i64 a0_6] 68 ?_;clear HB;intro gb101 w3 HB BK101 GW101;refine zz7 BK101.out ?_;intros));go_upto_if 5 with (first | ((with_reducible refine gD 1 rfl ?_);refine bX (w:=w) #[.int .i64 a0_0,.int .i64 a0_1,.int .i64 a0_2,.int .i64 a0_3,.int .i64 a0_4,.int .i64 a0_5,.int .i64 a0_6] 68 ?_;clear HB;intro gb101 w3 HB BK101 GW101;refine zz7 BK101.out ?_;intros)))
 (try simp only [Act.put,List.setIfInBounds_toArray,List.set_cons_zero,List.set_cons_succ]);go_cut [5] (fun v5 wc => ∃ (kq : Nat) (x5_1 : Bool),v5 = .bool x5_1 ∧ Aside0 (spec_l14Sets.j0 kq a0_0 x5_1 a0_0 a0_1 a0_2 a0_3 a0_4 a0_5 a0_6 = some r) ∧ Aside0 (kq ≤ k) ∧ Aside0 (wc.heap[gb101]? = some (.cells #[.int .i64 a0_0,.int .i64 a0_1,.int .i64 a0_2,.int .i64 a0_3,.int .i64 a0_4,.int .i64 a0_5,.int .i64 a0_6] 68 (0,0))) ∧ Aside0 (Below w.heap.size w wc))
 case first =>
  have H:=HC2.out;clear HC2;by_cases c5 : a0_0 = 1
  ·
   rw [if_pos c5] at H;obtain ⟨c5b0,c5b1⟩:=eT c5;clear c5;(first | rw [c5b0] | (simp only [i64_w,i32_w];rw [c5b0]) | skip);have H':=aS H;clear H;go_wp2;repeat (go_quiet (fail);try go_wp2)
   go_meet;case rel => exact ⟨_,((a0_0 == 1)),oE,H',⟨by first | omega | exact Nat.le_refl _⟩,⟨oB BK101.out⟩,⟨oL⟩⟩
  ·
   rw [if_neg c5] at H;obtain ⟨c5b0,c5b1⟩:=eF c5;(first | rw [c5b0] | (simp only [i64_w,i32_w];rw [c5b0]) | skip);by_cases c6 : a0_0 = 2
   ·
    rw [if_pos c6] at H;obtain ⟨c6b0,c6b1⟩:=eT c6;clear c6;have H':=aS H;clear H;go_wp2;repeat (go_quiet (fail);try go_wp2)
    go_meet;case rel => exact ⟨_,((a0_0 == 2)),oE,H',⟨by first | omega | exact Nat.le_refl _⟩,⟨oB BK101.out⟩,⟨oL⟩⟩
   ·
    rw [if_neg c6] at H;obtain ⟨c6b0,c6b1⟩:=eF c6;by_cases c7 : a0_0 = 5
    ·
     rw [if_pos c7] at H;obtain ⟨c7b0,c7b1⟩:=eT c7;clear c7;have H':=aS H;clear H;go_wp2;repeat (go_quiet (fail);try go_wp2)
     go_meet;case rel => exact ⟨_,((a0_0 == 5)),oE,H',⟨by first | omega | exact Nat.le_refl _⟩,⟨oB BK101.out⟩,⟨oL⟩⟩
    ·
     rw [if_neg c7] at H;obtain ⟨c7b0,c7b1⟩:=eF c7;by_cases c8 : a0_0 = 6
     ·
      rw [if_pos c8] at H;obtain ⟨c8b0,c8b1⟩:=eT c8;clear c8;have H':=aS H;clear H;go_wp2;repeat (go_quiet (fail);try go_wp2)
      go_meet;case rel => exact ⟨_,((a0_0 == 6)),oE,H',⟨by first | omega | exact Nat.le_refl _⟩,⟨oB BK101.out⟩,⟨oL⟩⟩
     ·
      rw [if_neg c8] at H;obtain ⟨c8b0,c8b1⟩:=eF c8;by_cases c9 : a0_0 = 7
      ·
       rw [if_pos c9] at H;obtain ⟨c9b0,c9b1⟩:=eT c9;clear c9;have H':=aS H;clear H;go_wp2;repeat (go_quiet (fail);try go_wp2)
       go_meet;case rel => exact ⟨_,((a0_0 == 7)),oE,H',⟨by first | omega | exact Nat.le_refl _⟩,⟨oB BK101.out⟩,⟨oL⟩⟩
      ·
       rw [if_neg c9] at H;obtain ⟨c9b0,c9b1⟩:=eF c9;by_cases c10 : a0_0 = 8
       ·
        rw [if_pos c10] at H;obtain ⟨c10b0,c10b1⟩:=eT c10;clear c10;have H':=aS H;clear H;go_wp2;repeat (go_quiet (fail);try go_wp2)
        go_meet;case rel => exact ⟨_,((a0_0 == 8)),oE,H',⟨by first | omega | exact Nat.le_refl _⟩,⟨oB BK101.out⟩,⟨oL⟩⟩
       ·
        rw [if_neg c10] at H;obtain ⟨c10b0,c10b1⟩:=eF c10;by_cases c11 : a0_0 = 16
        ·
         rw [if_pos c11] at H;obtain ⟨c11b0,c11b1⟩:=eT c11;clear c11;have H':=aS H;clear H;go_wp2;repeat (go_quiet (fail);try go_wp2)
         go_meet;case rel => exact ⟨_,((a0_0 == 16)),oE,H',⟨by first | omega | exact Nat.le_refl _⟩,⟨oB BK101.out⟩,⟨oL⟩⟩
        ·
         rw [if_neg c11] at H;obtain ⟨c11b0,c11b1⟩:=eF c11;have H':=aS H;clear H;go_wp2;repeat (go_quiet (fail);try go_wp2)
         go_meet;case rel => exact ⟨_,((a0_0 == 17)),oE,H',⟨by first | omega | exact Nat.le_refl _⟩,⟨oB BK101.out⟩,⟨oL⟩⟩
 case rest =>
  clear HC2;obtain ⟨kq,x5_1,rfl,HA,HJ1,BK101,HB⟩:=hcut;cases kq with
  | zero => exact absurd HA.out (by simp [spec_l14Sets.j0])
  | succ kj1 =>
   have H:=HA.out;clear HA;simp only [spec_l14Sets.j0] at H;by_cases c12 : x5_1 = true
   ·
    subst c12;replace H:=iT H;obtain rfl:=Option.some.inj H;go_wp2;repeat (go_quiet (fail);try go_wp2)
    go_ret;exact ⟨oE,oL⟩
   ·
    replace c12:=Bool.eq_false_iff.mpr c12;subst c12;replace H:=iF H;have HC13:=aS H;clear H;go_upto_if 14 with (fail);repeat (go_quiet (fail);go_upto_if 14 with (fail))
    go_cut [14] (fun v14 wc => ∃ (kq : Nat) (x14_12 : Bool),v14 = .bool x14_12 ∧ Aside0 (spec_l14Sets.j1 kq a0_0 x14_12 a0_0 a0_1 a0_2 a0_3 a0_4 a0_5 a0_6 = some r) ∧ Aside0 (kq ≤ kj1) ∧ Aside0 (wc.heap[gb101]? = some (.cells #[.int .i64 a0_0,.int .i64 a0_1,.int .i64 a0_2,.int .i64 a0_3,.int .i64 a0_4,.int .i64 a0_5,.int .i64 a0_6] 68 (0,0))) ∧ Aside0 (Below w.heap.size w wc))
    case first =>
     have H:=HC13.out;clear HC13;by_cases c14 : a0_0 = 3
     ·
      rw [if_pos c14] at H;obtain ⟨c14b0,c14b1⟩:=eT c14;clear c14;(first | rw [c14b0] | (simp only [i64_w,i32_w];rw [c14b0]) | skip);have H':=aS H;clear H;go_wp2;repeat (go_quiet (fail);try go_wp2)
      go_meet;case rel => exact ⟨_,((a0_0 == 3)),oE,H',⟨by have:=HJ1.out;first | omega | exact Nat.le_refl _⟩,⟨oB BK101.out⟩,⟨oL⟩⟩
     ·
      rw [if_neg c14] at H;obtain ⟨c14b0,c14b1⟩:=eF c14;(first | rw [c14b0] | (simp only [i64_w,i32_w];rw [c14b0]) | skip);have H':=aS H;clear H;go_wp2;repeat (go_quiet (fail);try go_wp2)
      go_meet;case rel => exact ⟨_,((a0_0 == 4)),oE,H',⟨by have:=HJ1.out;first | omega | exact Nat.le_refl _⟩,⟨oB BK101.out⟩,⟨oL⟩⟩
    case rest =>
     clear HC13;obtain ⟨kq,x14_12,rfl,HA,HJ12,BK101,HB⟩:=hcut;cases kq with
     | zero => exact absurd HA.out (by simp [spec_l14Sets.j1])
     | succ kj12 =>
      have H:=HA.out;clear HA;simp only [spec_l14Sets.j1] at H;by_cases c15 : x14_12 = true
      ·
       subst c15;replace H:=iT H;obtain rfl:=Option.some.inj H;go_wp2;repeat (go_quiet (fail);try go_wp2)
       go_ret;exact ⟨oE,oL⟩
      ·
       replace c15:=Bool.eq_false_iff.mpr c15;subst c15;replace H:=iF H;by_cases c16 : a0_0 = 11
       ·
        rw [if_pos c16] at H;obtain ⟨c16b0,c16b1⟩:=eT c16;clear c16;obtain ⟨t102,A17,H⟩:=bA_ H;obtain rfl:=Option.some.inj H;refine zz7 BK101.out ?_;intros;go_wp2_with (first | (go_at_call 85;(with_reducible refine (spec_l1Flag.calls (a0_6 == 1) 16 t102 _ A17.out).mono ?_);rintro e w' ⟨rfl,⟨nd,rfl⟩⟩;(try first | exact ⟨rfl,_,World.drewN_drewN _ _ _⟩ | exact ⟨rfl,_,Eq.trans (World.drewN_drewN _ _ _) (congrArg (World.drewN _) (Nat.add_assoc _ _ _))⟩)));repeat (go_quiet (first | (go_at_call 85;(with_reducible refine (spec_l1Flag.calls (a0_6 == 1) 16 t102 _ A17.out).mono ?_);rintro e w' ⟨rfl,⟨nd,rfl⟩⟩;(try first | exact ⟨rfl,_,World.drewN_drewN _ _ _⟩ | exact ⟨rfl,_,Eq.trans (World.drewN_drewN _ _ _) (congrArg (World.drewN _) (Nat.add_assoc _ _ _))⟩)));try go_wp2_with (first | (go_at_call 85;(with_reducible refine (spec_l1Flag.calls (a0_6 == 1) 16 t102 _ A17.out).mono ?_);rintro e w' ⟨rfl,⟨nd,rfl⟩⟩;(try first | exact ⟨rfl,_,World.drewN_drewN _ _ _⟩ | exact ⟨rfl,_,Eq.trans (World.drewN_drewN _ _ _) (congrArg (World.drewN _) (Nat.add_assoc _ _ _))⟩))))
        go_ret;exact ⟨oE,oL⟩
       ·
        rw [if_neg c16] at H;obtain ⟨c16b0,c16b1⟩:=eF c16;by_cases c19 : a0_0 = 12
        ·
         rw [if_pos c19] at H;obtain ⟨c19b0,c19b1⟩:=eT c19;clear c19;by_cases c20 : a0_6 = 4
         ·
          rw [if_pos c20] at H;obtain ⟨c20b0,c20b1⟩:=eT c20;clear c20;obtain ⟨t103,A21,H⟩:=bA_ H;obtain rfl:=Option.some.inj H;refine zz7 BK101.out ?_;intros;go_wp2_with (first | (go_at_call 85;(with_reducible refine (spec_l1Flag.calls false 16 t103 _ A21.out).mono ?_);rintro e w' ⟨rfl,⟨nd,rfl⟩⟩;(try first | exact ⟨rfl,_,World.drewN_drewN _ _ _⟩ | exact ⟨rfl,_,Eq.trans (World.drewN_drewN _ _ _) (congrArg (World.drewN _) (Nat.add_assoc _ _ _))⟩)));repeat (go_quiet (first | (go_at_call 85;(with_reducible refine (spec_l1Flag.calls false 16 t103 _ A21.out).mono ?_);rintro e w' ⟨rfl,⟨nd,rfl⟩⟩;(try first | exact ⟨rfl,_,World.drewN_drewN _ _ _⟩ | exact ⟨rfl,_,Eq.trans (World.drewN_drewN _ _ _) (congrArg (World.drewN _) (Nat.add_assoc _ _ _))⟩)));try go_wp2_with (first | (go_at_call 85;(with_reducible refine (spec_l1Flag.calls false 16 t103 _ A21.out).mono ?_);rintro e w' ⟨rfl,⟨nd,rfl⟩⟩;(try first | exact ⟨rfl,_,World.drewN_drewN _ _ _⟩ | exact ⟨rfl,_,Eq.trans (World.drewN_drewN _ _ _) (congrArg (World.drewN _) (Nat.add_assoc _ _ _))⟩))))
          go_ret;exact ⟨oE,oL⟩
         ·
          rw [if_neg c20] at H;obtain ⟨c20b0,c20b1⟩:=eF c20;obtain ⟨t104,A23,H⟩:=bA_ H;obtain rfl:=Option.some.inj H;refine zz7 BK101.out ?_;intros;go_wp2_with (first | (go_at_call 85;(with_reducible refine (spec_l1Flag.calls (a0_6 != 5) 16 t104 _ A23.out).mono ?_);rintro e w' ⟨rfl,⟨nd,rfl⟩⟩;(try first | exact ⟨rfl,_,World.drewN_drewN _ _ _⟩ | exact ⟨rfl,_,Eq.trans (World.drewN_drewN _ _ _) (congrArg (World.drewN _) (Nat.add_assoc _ _ _))⟩)));repeat (go_quiet (first | (go_at_call 85;(with_reducible refine (spec_l1Flag.calls (a0_6 != 5) 16 t104 _ A23.out).mono ?_);rintro e w' ⟨rfl,⟨nd,rfl⟩⟩;(try first | exact ⟨rfl,_,World.drewN_drewN _ _ _⟩ | exact ⟨rfl,_,Eq.trans (World.drewN_drewN _ _ _) (congrArg (World.drewN _) (Nat.add_assoc _ _ _))⟩)));try go_wp2_with (first | (go_at_call 85;(with_reducible refine (spec_l1Flag.calls (a0_6 != 5) 16 t104 _ A23.out).mono ?_);rintro e w' ⟨rfl,⟨nd,rfl⟩⟩;(try first | exact ⟨rfl,_,World.drewN_drewN _ _ _⟩ | exact ⟨rfl,_,Eq.trans (World.drewN_drewN _ _ _) (congrArg (World.drewN _) (Nat.add_assoc _ _ _))⟩))))
          go_ret;exact ⟨oE,oL⟩
        ·
         rw [if_neg c19] at H;obtain ⟨c19b0,c19b1⟩:=eF c19;by_cases c25 : a0_0 = 18
         ·
          rw [if_pos c25] at H;obtain ⟨c25b0,c25b1⟩:=eT c25;clear c25;obtain rfl:=Option.some.inj H;go_wp2;repeat (go_quiet (fail);try go_wp2)
          go_ret;exact ⟨oE,oL⟩
         ·
          rw [if_neg c25] at H;obtain ⟨c25b0,c25b1⟩:=eF c25;by_cases c26 : a0_0 = 15
          ·
           rw [if_pos c26] at H;obtain ⟨c26b0,c26b1⟩:=eT c26;clear c26;by_cases c27 : a0_6 = 1
           ·
            rw [if_pos c27] at H;obtain ⟨c27b0,c27b1⟩:=eT c27;clear c27;obtain ⟨t105,A28,H⟩:=bA_ H;obtain ⟨t106,A29,H⟩:=bA_ H;obtain rfl:=Option.some.inj H;refine zz7 BK101.out ?_;intros;go_wp2_with (first | (go_at_call 85;(with_reducible refine (spec_l1Flag.calls true 31 t105 _ A28.out).mono ?_);rintro e w' ⟨rfl,⟨nd,rfl⟩⟩;(try first | exact ⟨rfl,_,World.drewN_drewN _ _ _⟩ | exact ⟨rfl,_,Eq.trans (World.drewN_drewN _ _ _) (congrArg (World.drewN _) (Nat.add_assoc _ _ _))⟩)) | (go_at_call 85;(with_reducible refine (spec_l1Flag.calls (decide (a0_6 ≥ 5)) 15 t106 _ A29.out).mono ?_);rintro e w' ⟨rfl,⟨nd,rfl⟩⟩;(try first | exact ⟨rfl,_,World.drewN_drewN _ _ _⟩ | exact ⟨rfl,_,Eq.trans (World.drewN_drewN _ _ _) (congrArg (World.drewN _) (Nat.add_assoc _ _ _))⟩)));repeat (go_quiet (first | (go_at_call 85;(with_reducible refine (spec_l1Flag.calls true 31 t105 _ A28.out).mono ?_);rintro e w' ⟨rfl,⟨nd,rfl⟩⟩;(try first | exact ⟨rfl,_,World.drewN_drewN _ _ _⟩ | exact ⟨rfl,_,Eq.trans (World.drewN_drewN _ _ _) (congrArg (World.drewN _) (Nat.add_assoc _ _ _))⟩)) | (go_at_call 85;(with_reducible refine (spec_l1Flag.calls (decide (a0_6 ≥ 5)) 15 t106 _ A29.out).mono ?_);rintro e w' ⟨rfl,⟨nd,rfl⟩⟩;(try first | exact ⟨rfl,_,World.drewN_drewN _ _ _⟩ | exact ⟨rfl,_,Eq.trans (World.drewN_drewN _ _ _) (congrArg (World.drewN _) (Nat.add_assoc _ _ _))⟩)));try go_wp2_with (first | (go_at_call 85;(with_reducible refine (spec_l1Flag.calls true 31 t105 _ A28.out).mono ?_);rintro e w' ⟨rfl,⟨nd,rfl⟩⟩;(try first | exact ⟨rfl,_,World.drewN_drewN _ _ _⟩ | exact ⟨rfl,_,Eq.trans (World.drewN_drewN _ _ _) (congrArg (World.drewN _) (Nat.add_assoc _ _ _))⟩)) | (go_at_call 85;(with_reducible refine (spec_l1Flag.calls (decide (a0_6 ≥ 5)) 15 t106 _ A29.out).mono ?_);rintro e w' ⟨rfl,⟨nd,rfl⟩⟩;(try first | exact ⟨rfl,_,World.drewN_drewN _ _ _⟩ | exact ⟨rfl,_,Eq.trans (World.drewN_drewN _ _ _) (congrArg (World.drewN _) (Nat.add_assoc _ _ _))⟩))))
            go_ret;exact ⟨oE,oL⟩
           ·
            rw [if_neg c27] at H;obtain ⟨c27b0,c27b1⟩:=eF c27;obtain ⟨t107,A31,H⟩:=bA_ H;obtain ⟨t108,A32,H⟩:=bA_ H;obtain rfl:=Option.some.inj H;refine zz7 BK101.out ?_;intros;go_wp2_with (first | (go_at_call 85;(with_reducible refine (spec_l1Flag.calls (a0_6 == 3) 31 t107 _ A31.out).mono ?_);rintro e w' ⟨rfl,⟨nd,rfl⟩⟩;(try first | exact ⟨rfl,_,World.drewN_drewN _ _ _⟩ | exact ⟨rfl,_,Eq.trans (World.drewN_drewN _ _ _) (congrArg (World.drewN _) (Nat.add_assoc _ _ _))⟩)) | (go_at_call 85;(with_reducible refine (spec_l1Flag.calls (decide (a0_6 ≥ 5)) 15 t108 _ A32.out).mono ?_);rintro e w' ⟨rfl,⟨nd,rfl⟩⟩;(try first | exact ⟨rfl,_,World.drewN_drewN _ _ _⟩ | exact ⟨rfl,_,Eq.trans (World.drewN_drewN _ _ _) (congrArg (World.drewN _) (Nat.add_assoc _ _ _))⟩)));repeat (go_quiet (first | (go_at_call 85;(with_reducible refine (spec_l1Flag.calls (a0_6 == 3) 31 t107 _ A31.out).mono ?_);rintro e w' ⟨rfl,⟨nd,rfl⟩⟩;(try first | exact ⟨rfl,_,World.drewN_drewN _ _ _⟩ | exact ⟨rfl,_,Eq.trans (World.drewN_drewN _ _ _) (congrArg (World.drewN _) (Nat.add_assoc _ _ _))⟩)) | (go_at_call 85;(with_reducible refine (spec_l1Flag.calls (decide (a0_6 ≥ 5)) 15 t108 _ A32.out).mono ?_);rintro e w' ⟨rfl,⟨nd,rfl⟩⟩;(try first | exact ⟨rfl,_,World.drewN_drewN _ _ _⟩ | exact ⟨rfl,_,Eq.trans (World.drewN_drewN _ _ _) (congrArg (World.drewN _) (Nat.add_assoc _ _ _))⟩)));try go_wp2_with (first | (go_at_call 85;(with_reducible refine (spec_l1Flag.calls (a0_6 == 3) 31 t107 _ A31.out).mono ?_);rintro e w' ⟨rfl,⟨nd,rfl⟩⟩;(try first | exact ⟨rfl,_,World.drewN_drewN _ _ _⟩ | exact ⟨rfl,_,Eq.trans (World.drewN_drewN _ _ _) (congrArg (World.drewN _) (Nat.add_assoc _ _ _))⟩)) | (go_at_call 85;(with_reducible refine (spec_l1Flag.calls (decide (a0_6 ≥ 5)) 15 t108 _ A32.out).mono ?_);rintro e w' ⟨rfl,⟨nd,rfl⟩⟩;(try first | exact ⟨rfl,_,World.drewN_drewN _ _ _⟩ | exact ⟨rfl,_,Eq.trans (World.drewN_drewN _ _ _) (congrArg (World.drewN _) (Nat.add_assoc _ _ _))⟩))))
            go_ret;exact ⟨oE,oL⟩
          ·
           rw [if_neg c26] at H;obtain ⟨c26b0,c26b1⟩:=eF c26;by_cases c34 : a0_0 = 19
           ·
            rw [if_pos c34] at H;obtain ⟨c34b0,c34b1⟩:=eT c34;clear c34;obtain ⟨t109,A35,H⟩:=bA_ H;obtain rfl:=Option.some.inj H;refine zz7 BK101.out ?_;intros;go_wp2_with (first | (go_at_call 85;(with_reducible refine (spec_l1Flag.calls (a0_6 == 0) 31 t109 _ A35.out).mono ?_);rintro e w' ⟨rfl,⟨nd,rfl⟩⟩;(try first | exact ⟨rfl,_,World.drewN_drewN _ _ _⟩ | exact ⟨rfl,_,Eq.trans (World.drewN_drewN _ _ _) (congrArg (World.drewN _) (Nat.add_assoc _ _ _))⟩)));repeat (go_quiet (first | (go_at_call 85;(with_reducible refine (spec_l1Flag.calls (a0_6 == 0) 31 t109 _ A35.out).mono ?_);rintro e w' ⟨rfl,⟨nd,rfl⟩⟩;(try first | exact ⟨rfl,_,World.drewN_drewN _ _ _⟩ | exact ⟨rfl,_,Eq.trans (World.drewN_drewN _ _ _) (congrArg (World.drewN _) (Nat.add_assoc _ _ _))⟩)));try go_wp2_with (first | (go_at_call 85;(with_reducible refine (spec_l1Flag.calls (a0_6 == 0) 31 t109 _ A35.out).mono ?_);rintro e w' ⟨rfl,⟨nd,rfl⟩⟩;(try first | exact ⟨rfl,_,World.drewN_drewN _ _ _⟩ | exact ⟨rfl,_,Eq.trans (World.drewN_drewN _ _ _) (congrArg (World.drewN _) (Nat.add_assoc _ _ _))⟩))))
            go_ret;exact ⟨oE,oL⟩
           ·
            rw [if_neg c34] at H;obtain ⟨c34b0,c34b1⟩:=eF c34;obtain rfl:=Option.some.inj H;go_wp2;repeat (go_quiet (fail);try go_wp2)
            go_ret;exact ⟨oE,oL⟩
def spec_l14Write.f (a0_0 : Int) (a0_1 : Int) (a0_2 : Int) (a0_3 : Int) (a0_4 : Int) (a0_5 : Int) (a0_6 : Int) : Option (Bool):=if a0_0 = 2 then ((spec_l7Memory.f a0_3).bind fun t102 => (some t102)) else (if a0_0 = 11 then (if a0_6 < 3 then ((spec_l7Memory.f a0_3).bind fun t103 => (some t103)) else (some false)) else (if a0_0 = 14 then (some (a0_6 == 1)) else (some false)))
set_option maxHeartbeats 8000000 in
set_option maxRecDepth 100000 in
theorem spec_l14Write.calls (a0_0 : Int) (a0_1 : Int) (a0_2 : Int) (a0_3 : Int) (a0_4 : Int) (a0_5 : Int) (a0_6 : Int) (r : Bool) (w : World) (h : spec_l14Write.f a0_0 a0_1 a0_2 a0_3 a0_4 a0_5 a0_6 = some r) :
  Calls Tryz.prog 83 #[.agg #[.int .i64 a0_0,.int .i64 a0_1,.int .i64 a0_2,.int .i64 a0_3,.int .i64 a0_4,.int .i64 a0_5,.int .i64 a0_6]] w fun e w' => e = .returned (.bool r) ∧ Below w.heap.size w w':=by
 have hu68:=Tryz.underlying68;have HB:=aS (Below.refl w.heap.size w);unfold spec_l14Write.f at h;have H:=h;clear h;by_cases c2 : a0_0 = 2
 ·
  rw [if_pos c2] at H;obtain ⟨c2b0,c2b1⟩:=eT c2;clear c2;obtain ⟨t102,A3,H⟩:=bA_ H;obtain rfl:=Option.some.inj H;go_enter Tryz.func83,Tryz.ntmps83;go_wp2_with (first | ((with_reducible refine gD 1 rfl ?_);refine bX (w:=w) #[.int .i64 a0_0,.int .i64 a0_1,.int .i64 a0_2,.int .i64 a0_3,.int .i64 a0_4,.int .i64 a0_5,.int .i64 a0_6] 68 ?_;clear HB;intro gb101 w4 HB BK101 GW101;refine zz7 BK101.out ?_;intros) | ((with_reducible refine gate_callee (f:=61) rfl ?_);refine goesQ (some 10) Tryz.func61 #[.int .i64 a0_3] (spec_l7Memory.calls a0_3 t102 _ A3.out) fun nd => ?_));go_ret;exact ⟨oE,oL⟩
 ·
  rw [if_neg c2] at H;obtain ⟨c2b0,c2b1⟩:=eF c2;by_cases c6 : a0_0 = 11
  ·
   rw [if_pos c6] at H;obtain ⟨c6b0,c6b1⟩:=eT c6;clear c6;by_cases c7 : a0_6 < 3
   ·
    rw [if_pos c7] at H;have c7b0:=decide_eq_true c7;clear c7;obtain ⟨t103,A8,H⟩:=bA_ H;obtain rfl:=Option.some.inj H;go_enter Tryz.func83,Tryz.ntmps83;go_wp2_with (first | ((with_reducible refine gD 1 rfl ?_);refine bX (w:=w) #[.int .i64 a0_0,.int .i64 a0_1,.int .i64 a0_2,.int .i64 a0_3,.int .i64 a0_4,.int .i64 a0_5,.int .i64 a0_6] 68 ?_;clear HB;intro gb101 w9 HB BK101 GW101;refine zz7 BK101.out ?_;intros) | (go_at_call 61;(with_reducible refine (spec_l7Memory.calls a0_3 t103 _ A8.out).mono ?_);rintro e w' ⟨rfl,⟨nd,rfl⟩⟩));go_ret;exact ⟨oE,oL⟩
   ·
    rw [if_neg c7] at H;have c7b0:=decide_eq_false c7;clear c7;obtain rfl:=Option.some.inj H;go_enter Tryz.func83,Tryz.ntmps83;go_wp2_with (first | ((with_reducible refine gD 1 rfl ?_);refine bX (w:=w) #[.int .i64 a0_0,.int .i64 a0_1,.int .i64 a0_2,.int .i64 a0_3,.int .i64 a0_4,.int .i64 a0_5,.int .i64 a0_6] 68 ?_;clear HB;intro gb101 w11 HB BK101 GW101;refine zz7 BK101.out ?_;intros));go_ret;exact ⟨oE,oL⟩
  ·
   rw [if_neg c6] at H;obtain ⟨c6b0,c6b1⟩:=eF c6;by_cases c13 : a0_0 = 14
   ·
    rw [if_pos c13] at H;obtain ⟨c13b0,c13b1⟩:=eT c13;clear c13;obtain rfl:=Option.some.inj H;go_enter Tryz.func83,Tryz.ntmps83;go_wp2_with (first | ((with_reducible refine gD 1 rfl ?_);refine bX (w:=w) #[.int .i64 a0_0,.int .i64 a0_1,.int .i64 a0_2,.int .i64 a0_3,.int .i64 a0_4,.int .i64 a0_5,.int .i64 a0_6] 68 ?_;clear HB;intro gb101 w14 HB BK101 GW101;refine zz7 BK101.out ?_;intros));go_ret;exact ⟨oE,oL⟩
   ·
    rw [if_neg c13] at H;obtain ⟨c13b0,c13b1⟩:=eF c13;obtain rfl:=Option.some.inj H;go_enter Tryz.func83,Tryz.ntmps83;go_wp2_with (first | ((with_reducible refine gD 1 rfl ?_);refine bX (w:=w) #[.int .i64 a0_0,.int .i64 a0_1,.int .i64 a0_2,.int .i64 a0_3,.int .i64 a0_4,.int .i64 a0_5,.int .i64 a0_6] 68 ?_;clear HB;intro gb101 w16 HB BK101 GW101;refine zz7 BK101.out ?_;intros));go_ret;exact ⟨oE,oL⟩
def spec_l8Needs.f (a0 : Int) : Option (Int):=if (Go.bits .andNot .i64 a0 1) = 2 then (some 5) else (if (Go.bits .andNot .i64 a0 1) = 4 then (some 1) else (if (Go.bits .andNot .i64 a0 1) = 6 then (some 4) else (if (Go.bits .andNot .i64 a0 1) = 8 then (some 2) else (if (Go.bits .andNot .i64 a0 1) = 10 then (some 8) else (if (Go.bits .andNot .i64 a0 1) = 12 then (some 10) else (if (Go.bits .andNot .i64 a0 1) = 14 then (some 14) else (some 0)))))))
set_option maxHeartbeats 8000000 in
set_option maxRecDepth 100000 in
theorem spec_l8Needs.calls (a0 : Int) (r : Int) (w : World) (h : spec_l8Needs.f a0 = some r) :
  Calls Tryz.prog 101 #[.int .i64 a0] w fun e w' => e = .returned (.int .i64 r) ∧ Drawn0 w w':=by
 unfold spec_l8Needs.f at h;have H:=h;clear h;by_cases c2 : (Go.bits .andNot .i64 a0 1) = 2;{rw [if_pos c2] at H;obtain ⟨c2b0,c2b1⟩:=eT c2;clear c2;obtain rfl:=Option.some.inj H;go_enter Tryz.func101,Tryz.ntmps101;go_wp2;go_ret;exact ⟨by first | rfl | (simp;done) | (simp [*];done),by repeat (first | exact Drawn0.refl _ | apply Drawn0.step)⟩}
 ·
  rw [if_neg c2] at H;obtain ⟨c2b0,c2b1⟩:=eF c2;by_cases c3 : (Go.bits .andNot .i64 a0 1) = 4;{rw [if_pos c3] at H;obtain ⟨c3b0,c3b1⟩:=eT c3;clear c3;obtain rfl:=Option.some.inj H;go_enter Tryz.func101,Tryz.ntmps101;go_wp2;go_ret;exact ⟨by first | rfl | (simp;done) | (simp [*];done),by repeat (first | exact Drawn0.refl _ | apply Drawn0.step)⟩}
  ·
   rw [if_neg c3] at H;obtain ⟨c3b0,c3b1⟩:=eF c3;by_cases c4 : (Go.bits .andNot .i64 a0 1) = 6;{rw [if_pos c4] at H;obtain ⟨c4b0,c4b1⟩:=eT c4;clear c4;obtain rfl:=Option.some.inj H;go_enter Tryz.func101,Tryz.ntmps101;go_wp2;go_ret;exact ⟨by first | rfl | (simp;done) | (simp [*];done),by repeat (first | exact Drawn0.refl _ | apply Drawn0.step)⟩}
   ·
    rw [if_neg c4] at H;obtain ⟨c4b0,c4b1⟩:=eF c4;by_cases c5 : (Go.bits .andNot .i64 a0 1) = 8;{rw [if_pos c5] at H;obtain ⟨c5b0,c5b1⟩:=eT c5;clear c5;obtain rfl:=Option.some.inj H;go_enter Tryz.func101,Tryz.ntmps101;go_wp2;go_ret;exact ⟨by first | rfl | (simp;done) | (simp [*];done),by repeat (first | exact Drawn0.refl _ | apply Drawn0.step)⟩}
    ·
     rw [if_neg c5] at H;obtain ⟨c5b0,c5b1⟩:=eF c5;by_cases c6 : (Go.bits .andNot .i64 a0 1) = 10;{rw [if_pos c6] at H;obtain ⟨c6b0,c6b1⟩:=eT c6;clear c6;obtain rfl:=Option.some.inj H;go_enter Tryz.func101,Tryz.ntmps101;go_wp2;go_ret;exact ⟨by first | rfl | (simp;done) | (simp [*];done),by repeat (first | exact Drawn0.refl _ | apply Drawn0.step)⟩}
     ·
      rw [if_neg c6] at H;obtain ⟨c6b0,c6b1⟩:=eF c6;by_cases c7 : (Go.bits .andNot .i64 a0 1) = 12;{rw [if_pos c7] at H;obtain ⟨c7b0,c7b1⟩:=eT c7;clear c7;obtain rfl:=Option.some.inj H;go_enter Tryz.func101,Tryz.ntmps101;go_wp2;go_ret;exact ⟨by first | rfl | (simp;done) | (simp [*];done),by repeat (first | exact Drawn0.refl _ | apply Drawn0.step)⟩}
      ·
       rw [if_neg c7] at H;obtain ⟨c7b0,c7b1⟩:=eF c7;by_cases c8 : (Go.bits .andNot .i64 a0 1) = 14;{rw [if_pos c8] at H;obtain ⟨c8b0,c8b1⟩:=eT c8;clear c8;obtain rfl:=Option.some.inj H;go_enter Tryz.func101,Tryz.ntmps101;go_wp2;go_ret;exact ⟨by first | rfl | (simp;done) | (simp [*];done),by repeat (first | exact Drawn0.refl _ | apply Drawn0.step)⟩};{rw [if_neg c8] at H;obtain ⟨c8b0,c8b1⟩:=eF c8;obtain rfl:=Option.some.inj H;go_enter Tryz.func101,Tryz.ntmps101;go_wp2;go_ret;exact ⟨by first | rfl | (simp;done) | (simp [*];done),by repeat (first | exact Drawn0.refl _ | apply Drawn0.step)⟩}
def spec_l14Reads.f (a0_0 : Int) (a0_1 : Int) (a0_2 : Int) (a0_3 : Int) (a0_4 : Int) (a0_5 : Int) (a0_6 : Int) : Option (Int):=if a0_0 = 13 then ((spec_l8Needs.f (wrap64 (a0_6 + (wrap64 (8 * a0_2))))).bind fun t102 => (some t102)) else (if a0_0 = 12 then ((spec_l1Flag.f (decide (a0_6 ≥ 6)) 16).bind fun t103 => (some t103)) else (if a0_0 = 18 then (some 20) else (if a0_0 = 19 then ((spec_l1Flag.f (a0_6 == 1) 31).bind fun t104 => (some t104)) else (some 0))))
set_option maxHeartbeats 8000000 in
set_option maxRecDepth 100000 in
theorem spec_l14Reads.calls (a0_0 : Int) (a0_1 : Int) (a0_2 : Int) (a0_3 : Int) (a0_4 : Int) (a0_5 : Int) (a0_6 : Int) (r : Int) (w : World) (h : spec_l14Reads.f a0_0 a0_1 a0_2 a0_3 a0_4 a0_5 a0_6 = some r) :
  Calls Tryz.prog 84 #[.agg #[.int .i64 a0_0,.int .i64 a0_1,.int .i64 a0_2,.int .i64 a0_3,.int .i64 a0_4,.int .i64 a0_5,.int .i64 a0_6]] w fun e w' => e = .returned (.int .i64 r) ∧ Below w.heap.size w w':=by
 have hu68:=Tryz.underlying68;have HB:=aS (Below.refl w.heap.size w);unfold spec_l14Reads.f at h;have H:=h;clear h;by_cases c2 : a0_0 = 13
 ·
  rw [if_pos c2] at H;obtain ⟨c2b0,c2b1⟩:=eT c2;clear c2;obtain ⟨t102,A3,H⟩:=bA_ H;obtain rfl:=Option.some.inj H;go_enter Tryz.func84,Tryz.ntmps84;go_wp2_with (first | ((with_reducible refine gD 1 rfl ?_);refine bX (w:=w) #[.int .i64 a0_0,.int .i64 a0_1,.int .i64 a0_2,.int .i64 a0_3,.int .i64 a0_4,.int .i64 a0_5,.int .i64 a0_6] 68 ?_;clear HB;intro gb101 w4 HB BK101 GW101;refine zz7 BK101.out ?_;intros) | ((with_reducible refine gate_callee (f:=101) rfl ?_);refine goesQ (some 13) Tryz.func101 #[.int .i64 (wrap64 (a0_6 + (wrap64 (8 * a0_2))))] (spec_l8Needs.calls (wrap64 (a0_6 + (wrap64 (8 * a0_2)))) t102 _ A3.out) fun nd => ?_));go_ret;exact ⟨oE,oL⟩
 ·
  rw [if_neg c2] at H;obtain ⟨c2b0,c2b1⟩:=eF c2;by_cases c6 : a0_0 = 12
  ·
   rw [if_pos c6] at H;obtain ⟨c6b0,c6b1⟩:=eT c6;clear c6;obtain ⟨t103,A7,H⟩:=bA_ H;obtain rfl:=Option.some.inj H;go_enter Tryz.func84,Tryz.ntmps84;go_wp2_with (first | ((with_reducible refine gD 1 rfl ?_);refine bX (w:=w) #[.int .i64 a0_0,.int .i64 a0_1,.int .i64 a0_2,.int .i64 a0_3,.int .i64 a0_4,.int .i64 a0_5,.int .i64 a0_6] 68 ?_;clear HB;intro gb101 w8 HB BK101 GW101;refine zz7 BK101.out ?_;intros) | ((with_reducible refine gate_callee (f:=85) rfl ?_);refine goesQ (some 19) Tryz.func85 #[.bool (decide (a0_6 ≥ 6)),.int .i64 16] (spec_l1Flag.calls (decide (a0_6 ≥ 6)) 16 t103 _ A7.out) fun nd => ?_));go_ret;exact ⟨oE,oL⟩
  ·
   rw [if_neg c6] at H;obtain ⟨c6b0,c6b1⟩:=eF c6;by_cases c10 : a0_0 = 18
   ·
    rw [if_pos c10] at H;obtain ⟨c10b0,c10b1⟩:=eT c10;clear c10;obtain rfl:=Option.some.inj H;go_enter Tryz.func84,Tryz.ntmps84;go_wp2_with (first | ((with_reducible refine gD 1 rfl ?_);refine bX (w:=w) #[.int .i64 a0_0,.int .i64 a0_1,.int .i64 a0_2,.int .i64 a0_3,.int .i64 a0_4,.int .i64 a0_5,.int .i64 a0_6] 68 ?_;clear HB;intro gb101 w11 HB BK101 GW101;refine zz7 BK101.out ?_;intros));go_ret;exact ⟨oE,oL⟩
   ·
    rw [if_neg c10] at H;obtain ⟨c10b0,c10b1⟩:=eF c10;by_cases c13 : a0_0 = 19
    ·
     rw [if_pos c13] at H;obtain ⟨c13b0,c13b1⟩:=eT c13;clear c13;obtain ⟨t104,A14,H⟩:=bA_ H;obtain rfl:=Option.some.inj H;go_enter Tryz.func84,Tryz.ntmps84;go_wp2_with (first | ((with_reducible refine gD 1 rfl ?_);refine bX (w:=w) #[.int .i64 a0_0,.int .i64 a0_1,.int .i64 a0_2,.int .i64 a0_3,.int .i64 a0_4,.int .i64 a0_5,.int .i64 a0_6] 68 ?_;clear HB;intro gb101 w15 HB BK101 GW101;refine zz7 BK101.out ?_;intros) | ((with_reducible refine gate_callee (f:=85) rfl ?_);refine goesQ (some 27) Tryz.func85 #[.bool (a0_6 == 1),.int .i64 31] (spec_l1Flag.calls (a0_6 == 1) 31 t104 _ A14.out) fun nd => ?_));go_ret;exact ⟨oE,oL⟩
    ·
     rw [if_neg c13] at H;obtain ⟨c13b0,c13b1⟩:=eF c13;obtain rfl:=Option.some.inj H;go_enter Tryz.func84,Tryz.ntmps84;go_wp2_with (first | ((with_reducible refine gD 1 rfl ?_);refine bX (w:=w) #[.int .i64 a0_0,.int .i64 a0_1,.int .i64 a0_2,.int .i64 a0_3,.int .i64 a0_4,.int .i64 a0_5,.int .i64 a0_6] 68 ?_;clear HB;intro gb101 w17 HB BK101 GW101;refine zz7 BK101.out ?_;intros));go_ret;exact ⟨oE,oL⟩
end Go.Proofs.YtjnifnhpnccpcaaGreat.J
