-- Made by this session's program gprint.py out of the translation. Not trusted: Lean checks it.
import Derived.Test.YtjnifnhpnccpcaaGx0
import Derived.Test.YtjnifnhpnccpcaaGx1
import Derived.Test.YtjnifnhpnccpcaaGx12
namespace Go.Proofs.Ytjnifnhpnccpcaa.G
open Go.RowKit Go.Proofs.YtjnifnhpnccpcaaW.PrintWords Go.Proofs.YtjnifnhpnccpcaaW.PrintLast Go.Proofs.YtjnifnhpnccpcaaW.PrintMore
attribute [local go_sem] max2_int min2_int max_two min_two max_three min_three max_four min_four   -- for this text's walks alone
set_option linter.unusedVariables false
set_option linter.unusedSimpArgs false

attribute [local go_sem high] eqA75
/-! ### laws_toCachedS: function 75 -/
def laws_toCachedS.l0 : Nat → List (S124) → List (S101) → Int → Option ((List (S101)))
 | 0,_,_,_ => none
 | k + 1,x0,x3,x4 => if x4 < (x0.length : Int) then (if 0 ≤ x4 then ((laws_toCached.f k ((rd_T124 x0 x4).f0.f0) ((rd_T124 x0 x4).f0.f1) ((rd_T124 x0 x4).f0.f2) ((rd_T124 x0 x4).f1)).bind fun bt105 => (if x4 < (x3.length : Int) then (laws_toCachedS.l0 k x0 (x3.set (x4 : Int).toNat (⟨(⟨bt105.1,bt105.2.1,bt105.2.2.1⟩ : S41),bt105.2.2.2⟩ : S101)) (wrap64 (x4 + 1))) else (none))) else (none)) else (some x3)
def laws_toCachedS.f (k : Nat) (l0 : List (S124)) : Option ((List (S101))) := if 0 ≤ (l0.length : Int) then (if ((l0.length : Int) : Int).toNat ≤ 5864062014805 then (laws_toCachedS.l0 k l0 (List.replicate ((l0.length : Int) : Int).toNat z101) 0) else (none)) else (none)
theorem laws_toCachedS.mono_l : ∀ k,(∀ y0 y1 y2,LeO (laws_toCachedS.l0 k y0 y1 y2) (laws_toCachedS.l0 (k + 1) y0 y1 y2))
 | 0 => fun _ _ _ r h => by simp [laws_toCachedS.l0] at h
 | k + 1 => by
  have ih0 := laws_toCachedS.mono_l k
  ·
   intro y0 y1 y2
   unfold laws_toCachedS.l0
   repeat' first
   | (with_reducible exact ih0 _ _ _)
   | (with_reducible exact laws_toCached.mono _ _ _ _ _)
   | (with_reducible exact LeO.refl _)
   | (with_reducible exact LeO.none _)
   | (with_reducible refine LeO.ite ?_ ?_)
   | (with_reducible refine LeO.bind ?_ (fun _ => ?_))
   | exact ih0 _ _ _
   | exact laws_toCached.mono _ _ _ _ _
   | exact LeO.none _
   | refine LeO.ite ?_ ?_
   | refine LeO.bind ?_ (fun _ => ?_)
theorem laws_toCachedS.mono : ∀ a0 k,LeO (laws_toCachedS.f k a0) (laws_toCachedS.f (k + 1) a0) := by
 intro a0 k
 have ih0 := laws_toCachedS.mono_l k
 unfold laws_toCachedS.f
 repeat' first
   | (with_reducible exact ih0 _ _ _)
   | (with_reducible exact laws_toCached.mono _ _ _ _ _)
   | (with_reducible exact LeO.refl _)
   | (with_reducible exact LeO.none _)
   | (with_reducible refine LeO.ite ?_ ?_)
   | (with_reducible refine LeO.bind ?_ (fun _ => ?_))
   | exact ih0 _ _ _
   | exact laws_toCached.mono _ _ _ _ _
   | exact LeO.none _
   | refine LeO.ite ?_ ?_
   | refine LeO.bind ?_ (fun _ => ?_)
set_option maxHeartbeats 8000000 in
set_option maxRecDepth 100000 in
theorem laws_toCachedS.calls (k : Nat) (A0 : Option Addr) (c0 : Nat) (l0 : List (S124)) (r : List (S101)) (w : World) (hr0 : Kd.C k124 w A0 l0.length l0) (hc0 : l0.length ≤ c0) (h : laws_toCachedS.f k l0 = some r) :
  Calls Try.prog 75 #[.slice A0 l0.length c0] w fun e w' => ∃ v0_ : Value,e = .returned (v0_) ∧ Kd.S k101 101 w' w.heap.size (fun _ => True) v0_ r ∧ Below w.heap.size w w' := by
 have hu124 := Try.underlying124;have hu101 := Try.underlying101;have HR0 := aS hr0;have HC0 := aS hc0;clear hr0 hc0;have HB := aS (Below.refl w.heap.size w);have H : (if 0 ≤ (l0.length : Int) then (if ((l0.length : Int) : Int).toNat ≤ 5864062014805 then (laws_toCachedS.l0 k l0 (List.replicate ((l0.length : Int) : Int).toNat z101) 0) else (none)) else (none)) = some r := h;clear h;by_cases c2 : 0 ≤ (l0.length : Int)
 ·
  rw [if_pos c2] at H;have c2b0 := eq_true c2;have c2b1 : decide (0 ≤ (l0.length : Int)) = true := decide_eq_true c2;clear c2;by_cases c3 : ((l0.length : Int) : Int).toNat ≤ 5864062014805
  ·
   rw [if_pos c3] at H;have c3b0 := eq_true c3;have c3b1 : decide (((l0.length : Int) : Int).toNat ≤ 5864062014805) = true := decide_eq_true c3;clear c3;obtain ⟨y101,hy101⟩ : ∃ y_ : List (S101),y_ = (List.replicate ((l0.length : Int) : Int).toNat z101) := ⟨_,rfl⟩;replace H : (laws_toCachedS.l0 k l0 y101 0) = some r := by first | (rw [hy101];with_reducible exact H) | (have H2_ := (Option.bind_some _ _).symm.trans H;rw [hy101];with_reducible exact H2_) | (have H2_ := (Option.bind_some _ _).symm.trans H;with_reducible exact H2_) | with_reducible exact H | (rw [hy101];exact H) | exact H
   have Ny101 := aS hy101;clear hy101;have H' := aS H;clear H;go_enter Try.func75,Try.ntmps75;go_wp2_with (first | ((with_reducible refine gate_dst (N := 7) rfl ?_);refine Kd.S_make k101 _ 101 rfl (N := 7) rfl 59 _ _ rfl (l0.length : Int) rfl rfl Try.underlying59 (.agg #[(.int .i64 0),(.int .i64 0),(.slice none 0 0),(.int .i64 0)]) 48 info101 rfl (by decide) (by omega) z101 (ok := fun _ => True) (okp := fun _ => True) (k101_mkM _ _ _ z101 (Kd.R_nil _ _ _ _ _)) (fun _ hk => hk) trivial (of_decide_eq_true (by first | (with_reducible assumption) | assumption)) (Nat.le_trans (Nat.mul_le_mul_right _ (of_decide_eq_true (by first | (with_reducible assumption) | assumption) : (l0.length : Int).toNat ≤ 5864062014805)) (by omega)) (Below.refl _ _) (Nat.le_refl _) ?_;intro v102 w4 ho5 hb hg_ hnew_;clear hg_ hnew_;(first | rw [← Ny101.out] at ho5 | (simp only [Int.reduceToNat] at ho5;rw [← Ny101.out] at ho5));have n0_ := aS (Kd.S_lower ho5 (below_size oL));have n1_ := aS (below_step oL hb);clear HB;have HO103 := n0_;have HB := n1_;clear n0_ n1_;clear hb ho5));go_loopg [4] k (fun kq v4 w' => ∃ (x3_1 : List (S101)) (x4_1 : Int),v4 = .int .i64 x4_1 ∧ Aside0 (laws_toCachedS.l0 kq l0 x3_1 x4_1 = some r) ∧ Aside0 (kq ≤ k) ∧ Aside0 (Kd.S k101 101 w' w.heap.size (fun _ => True) v102 x3_1) ∧ Aside0 (Below w.heap.size w w'))
   case atStart => exact ⟨(y101),(0),oE,H',⟨Nat.le_refl _⟩,⟨by (with_reducible repeat (first | apply Kd.S_alloc | apply Kd.S_drewN | apply Kd.S_drew));exact HO103.out⟩,⟨oL⟩⟩
   case round =>
    clear H';(try clear c2);(try clear c2b0);(try clear c2b1);(try clear p2);(try clear c3);(try clear c3b0);(try clear c3b1);obtain ⟨x3_1,x4_1,rfl,HA,HK1,HO_3,HB⟩ := hrel;cases gk with
    | zero => exact absurd HA.out (by simp [laws_toCachedS.l0])
    | succ k1 =>
     have H := HA.out;clear HA;simp only [laws_toCachedS.l0] at H;by_cases c6 : x4_1 < (l0.length : Int)
     ·
      rw [if_pos c6] at H;have c6b0 : decide (x4_1 < (l0.length : Int)) = true := decide_eq_true c6;clear c6;by_cases c7 : 0 ≤ x4_1
      ·
       rw [if_pos c7] at H;have c7b0 : decide (0 ≤ x4_1) = true := decide_eq_true c7;clear c7;replace H := Option.bind_eq_some_iff.mp H;obtain ⟨⟨t105,t106,t107,t110⟩,A80,H⟩ := H;replace H : (if x4_1 < (x3_1.length : Int) then (laws_toCachedS.l0 k1 l0 (x3_1.set (x4_1 : Int).toNat (⟨(⟨t105,t106,t107⟩ : S41),t110⟩ : S101)) (wrap64 (x4_1 + 1))) else (none)) = some r := H;have A8 := aS A80;clear A80;by_cases c9 : x4_1 < (x3_1.length : Int)
       ·
        rw [if_pos c9] at H;have c9b0 : decide (x4_1 < (x3_1.length : Int)) = true := decide_eq_true c9;clear c9;obtain ⟨y111,hy111⟩ : ∃ y_ : List (S101),y_ = (x3_1.set (x4_1 : Int).toNat (⟨(⟨t105,t106,t107⟩ : S41),t110⟩ : S101)) := ⟨_,rfl⟩;replace H : (laws_toCachedS.l0 k1 l0 y111 (wrap64 (x4_1 + 1))) = some r := by first | (rw [hy111];with_reducible exact H) | (have H2_ := (Option.bind_some _ _).symm.trans H;rw [hy111];with_reducible exact H2_) | (have H2_ := (Option.bind_some _ _).symm.trans H;with_reducible exact H2_) | with_reducible exact H | (rw [hy111];exact H) | exact H
        have Ny111 := aS hy111;clear hy111;have H' := aS H;clear H;have p104 : 0 ≤ (x4_1 : Int) := of_decide_eq_true (by first | (with_reducible assumption) | assumption);have q104 : x4_1 < (l0.length : Int) := of_decide_eq_true (by first | (with_reducible assumption) | assumption);obtain ⟨ad104,A104_2,c104_2,e104,hx104_0,hx104_1,hx104_2,hx104_3,hl104_2,hi104_2⟩ := at_T124 HR0.out x4_1 p104 q104;cases e104
        replace hx104_0 := oJ HB hx104_0;replace hx104_1 := oJ HB hx104_1;replace hx104_2 := oJ HB hx104_2;replace hx104_3 := oJ HB hx104_3;have HR104_2 := aS hi104_2;have HC104_2 := aS hl104_2;clear hi104_2 hl104_2;replace p104 := eq_true p104;replace q104 := eq_true q104;go_wp2_with (first | ((with_reducible refine gate_callee (f := 113) rfl ?_);refine goesL_ (some 20) rfl rfl Try.func113 (by kernel_rfl) rfl #[.agg #[.int .i64 ((rd_T124 l0 x4_1).f0.f0),.int .i64 ((rd_T124 l0 x4_1).f0.f1),.slice A104_2 ((rd_T124 l0 x4_1).f0.f2).length c104_2,.int .i64 ((rd_T124 l0 x4_1).f1)]] rfl (by (try simp only [List.map_toArray,List.map_cons,List.map_nil]);first | done | rfl | (simp only [List.length_drop,List.length_take];rfl)) ?_;(with_reducible refine (laws_toCached.calls k1 ((rd_T124 l0 x4_1).f0.f0) ((rd_T124 l0 x4_1).f0.f1) _ _ ((rd_T124 l0 x4_1).f0.f2) ((rd_T124 l0 x4_1).f1) t105 t106 t107 t110 _ ?side1 ?side2 A8.out).mono ?_);(case side1 => exact oC HR104_2.out);(case side2 => exact HC104_2.out);rintro e w11 ⟨v108,rfl,ho0,hb⟩;refine ⟨_,rfl,?_⟩;have n0_ := aS (Kd.S_elder' (by (with_reducible repeat (first | apply Kd.S_alloc | apply Kd.S_drewN | apply Kd.S_drew));exact HO_3.out) (Kd.R_base ho0) hb);have n1_ := aS (Kd.R_lower ho0 (below_size oL));have n2_ := aS (below_step oL hb);clear HO_3;clear HB;have HO_3 := n0_;have HO109 := n1_;have HB := n2_;clear n0_ n1_ n2_;(try clear hb);(try clear hb2);(try clear hk);(try clear hi);(try clear ho0);have p10 : 0 ≤ (x4_1 : Int) := of_decide_eq_true (by first | (with_reducible assumption) | assumption);have q10 : (x4_1 : Int) < ((x3_1.length : Int) : Int) := of_decide_eq_true (by first | (with_reducible assumption) | assumption);obtain ⟨go10,co10,eo10,gb10,gl10,cl10,HG10⟩ := Kd.S_form HO_3.out (by omega);(first | cases eo10 | (injection eo10 with ea_ en_ ec_;(first | subst ea_ | (injection ea_ with ea_;subst ea_));subst ec_;clear en_));have GB10 := aS gb10;have GG10 := aS HG10;clear gb10 gl10 HG10;obtain ⟨_,ce10,hcl10,hM10,hcc10,hfr10,_,_⟩ := Kd.S_elem HO_3.out z101 (x4_1 : Int) p10 q10;obtain ⟨ve10_2,rfl,ge10_2⟩ := k101_openM hM10;have hx10_0 : w11.cell? ⟨go10,(x4_1 : Int).toNat * 4,none⟩ = some (.int .i64 ((rd_T101 x3_1 x4_1).f0.f0)) := hcc10 0 _ rfl;have hx10_1 : w11.cell? ⟨go10,(x4_1 : Int).toNat * 4 + 1,none⟩ = some (.int .i64 ((rd_T101 x3_1 x4_1).f0.f1)) := hcc10 1 _ rfl;have hx10_2 : w11.cell? ⟨go10,(x4_1 : Int).toNat * 4 + 2,none⟩ = some (ve10_2) := hcc10 2 _ rfl;have hx10_3 : w11.cell? ⟨go10,(x4_1 : Int).toNat * 4 + 3,none⟩ = some (.int .i64 ((rd_T101 x3_1 x4_1).f1)) := hcc10 3 _ rfl;have hf10_0 : w11.frozen? ⟨go10,(x4_1 : Int).toNat * 4,none⟩ = false := hfr10 0;have hf10_1 : w11.frozen? ⟨go10,(x4_1 : Int).toNat * 4 + 1,none⟩ = false := hfr10 1;have hf10_2 : w11.frozen? ⟨go10,(x4_1 : Int).toNat * 4 + 2,none⟩ = false := hfr10 2;have hf10_3 : w11.frozen? ⟨go10,(x4_1 : Int).toNat * 4 + 3,none⟩ = false := hfr10 3;clear hcl10 hcc10 hfr10 hM10;replace p10 := eq_true p10;replace q10 := eq_true q10;have n_ := aS (Kd.S_mono (ok' := (fun k_ => some k_ ≠ (v108 : Value).ownBlock)) HO_3.out (fun k_ hk => hk.2));clear HO_3;have HO_3 := n_;clear n_;have HX12 := aS (show Kd.S k101 101 w11 w.heap.size (fun k_ => ((fun _ => True)) k_ ∧ ¬ ((fun k_ => some k_ = (v108 : Value).ownBlock)) k_) (.slice (some ⟨go10,0,none⟩) x3_1.length co10) x3_1 from (by (with_reducible repeat (first | apply Kd.S_alloc | apply Kd.S_drewN | apply Kd.S_drew));exact Kd.S_mono HO_3.out (fun k_ hk => ⟨trivial,fun e_ => hk e_⟩)));obtain ⟨oki12,ce12,hcl12,hM12,hcc12,hfr12,hoki12,hH12⟩ := Kd.S_elem HX12.out z101 (x4_1 : Int) (of_decide_eq_true (by first | (with_reducible assumption) | assumption)) (by have h_ : (x4_1 : Int) < ((x3_1.length : Int) : Int) := of_decide_eq_true (by first | (with_reducible assumption) | assumption);first | exact h_ | (have e_ := (Kd.S_reads' HO_3.out).1;omega) | simpa using h_);obtain ⟨ve12_2,rfl,ge12_2⟩ := k101_openM hM12;have HP12 := Kd.S_seg hH12 (of_decide_eq_true (by first | (with_reducible assumption) | assumption)) (by have h_ : (x4_1 : Int) < ((x3_1.length : Int) : Int) := of_decide_eq_true (by first | (with_reducible assumption) | assumption);first | exact h_ | (have e_ := (Kd.S_reads' HO_3.out).1;omega) | simpa using h_) (seg := [.int .i64 t105,.int .i64 t106,v108,.int .i64 t110]) (j := 0) (show 4 ≤ 4 from by decide) (x' := (⟨(⟨t105,t106,t107⟩ : S41),t110⟩ : S101)) (k101_mkM _ _ _ (⟨(⟨t105,t106,t107⟩ : S41),t110⟩ : S101) (Kd.R_mono (Kd.R_tight rfl (Kd.R_mono (ok' := fun k_ => ((fun _ => True)) k_ ∧ k_ ≠ go10) (Kd.R_apart' (HO109.out) (Kd.S_typed HO_3.out) (by decide)) (fun k_ hk => ⟨trivial,fun e_ => (hk.2) (by rw [e_];rfl)⟩))) (fun _ h_ => Or.inr (h_)))) (fun _ hk => hk) (fun k_ hk_ => ((Kd.R_mono (ok' := fun k_ => ((fun _ => True)) k_ ∧ k_ ≠ go10) (Kd.R_apart' (HO109.out) (Kd.S_typed HO_3.out) (by decide)) (fun k_ hk => ⟨trivial,fun e_ => (hk.2) (by rw [e_];rfl)⟩))).1 k_ hk_.symm);have hx12_0 := hcc12 0 _ rfl;(try simp only [show (k101).sz = 4 from rfl,Nat.mul_one,Nat.add_zero] at hx12_0);have hf12_0 := hfr12 0;(try simp only [show (k101).sz = 4 from rfl,Nat.mul_one,Nat.add_zero] at hf12_0);have hx12_1 := hcc12 1 _ rfl;(try simp only [show (k101).sz = 4 from rfl,Nat.mul_one,Nat.add_zero] at hx12_1);have hf12_1 := hfr12 1;(try simp only [show (k101).sz = 4 from rfl,Nat.mul_one,Nat.add_zero] at hf12_1);have hx12_2 := hcc12 2 _ rfl;(try simp only [show (k101).sz = 4 from rfl,Nat.mul_one,Nat.add_zero] at hx12_2);have hf12_2 := hfr12 2;(try simp only [show (k101).sz = 4 from rfl,Nat.mul_one,Nat.add_zero] at hf12_2);have hx12_3 := hcc12 3 _ rfl;(try simp only [show (k101).sz = 4 from rfl,Nat.mul_one,Nat.add_zero] at hx12_3);have hf12_3 := hfr12 3;(try simp only [show (k101).sz = 4 from rfl,Nat.mul_one,Nat.add_zero] at hf12_3);clear hcl12 hcc12 hfr12 hM12 hoki12 hH12) | ((with_reducible refine gate_store (t := 101) (p := 21) rfl ?_);refine store_event (t := 101) (p := 21) (v := ?vo_w13) (w1 := ((((w11.setCell ⟨go10,(x4_1 : Int).toNat * 4,none⟩ (.int .i64 t105)).setCell ⟨go10,(x4_1 : Int).toNat * 4 + 1,none⟩ (.int .i64 t106)).setCell ⟨go10,(x4_1 : Int).toNat * 4 + 2,none⟩ (v108)).setCell ⟨go10,(x4_1 : Int).toNat * 4 + 3,none⟩ (.int .i64 t110))) ?hg ?ho ?hn ?hr ?_;(case ho => rfl);(case hg => rfl);(case hn => rfl);(case hr => (try (obtain ⟨A_,c_,e_⟩ := Kd.R_slice HO109.out;subst e_));first | (go_simp;done) | (go_simp;rfl));intro w13 hw;have hg : w11.grownBy w13 (some go10) := (by rw [hw];exact HP12.2);have hp_ : Kd.S k101 101 w13 w.heap.size (fun _ => True) (.slice (some ⟨go10,0,none⟩) x3_1.length co10) y111 := (by rw [hw,Ny111.out];exact HP12.1);clear HP12;have n0_ := aS (hp_);have n1_ := aS ((by rw [hw];exact below_set (below_set (below_set (below_set (HB.out) GB10.out) GB10.out) GB10.out) GB10.out : Below w.heap.size w w13));clear HO_3;clear HB;clear HO109;have HO_3 := n0_;have HB := n1_;clear n0_ n1_;clear hg hw hp_));go_roundg k1;case measure => have := HK1.out;omega
        case rel => exact ⟨(y111),(wrap64 (x4_1 + 1)),oE,H',⟨by have := HK1.out;omega⟩,⟨by (with_reducible repeat (first | apply Kd.S_alloc | apply Kd.S_drewN | apply Kd.S_drew));exact HO_3.out⟩,⟨oL⟩⟩
       · rw [if_neg c9] at H;exact absurd H (by simp)
      · rw [if_neg c7] at H;exact absurd H (by simp)
     · rw [if_neg c6] at H;have c6b0 : decide (x4_1 < (l0.length : Int)) = false := decide_eq_false c6;clear c6;obtain rfl := Option.some.inj H;go_wp2;go_ret;exact ⟨_,oE,by (with_reducible repeat (first | apply Kd.S_alloc | apply Kd.S_drewN | apply Kd.S_drew));exact HO_3.out,oL⟩
  · rw [if_neg c3] at H;exact absurd H (by simp)
 · rw [if_neg c2] at H;exact absurd H (by simp)

/-! ### laws_toStore: function 34 -/
def laws_toStore.f (k : Nat) (a0_0 : Int) (a0_1 : Int) (l0_2 : List (S124)) : Option (Int × Int × (List (S101))) := (laws_toCachedS.f k l0_2).bind fun t104 => (some (a0_0,a0_1,t104))
theorem laws_toStore.mono : ∀ a0 a1 a2 k,LeO (laws_toStore.f k a0 a1 a2) (laws_toStore.f (k + 1) a0 a1 a2) := by
 intro a0 a1 a2 k
 unfold laws_toStore.f
 repeat' first
   | (with_reducible exact laws_toCachedS.mono _ _)
   | (with_reducible exact LeO.refl _)
   | (with_reducible exact LeO.none _)
   | (with_reducible refine LeO.ite ?_ ?_)
   | (with_reducible refine LeO.bind ?_ (fun _ => ?_))
   | exact laws_toCachedS.mono _ _
   | exact LeO.none _
   | refine LeO.ite ?_ ?_
   | refine LeO.bind ?_ (fun _ => ?_)
set_option maxHeartbeats 8000000 in
set_option maxRecDepth 100000 in
theorem laws_toStore.calls (k : Nat) (a0_0 : Int) (a0_1 : Int) (A0_2 : Option Addr) (c0_2 : Nat) (l0_2 : List (S124)) (r1 : Int) (r2 : Int) (r3 : List (S101)) (w : World) (hr0_2 : Kd.C k124 w A0_2 l0_2.length l0_2) (hc0_2 : l0_2.length ≤ c0_2) (h : laws_toStore.f k a0_0 a0_1 l0_2 = some (r1,r2,r3)) :
  Calls Try.prog 34 #[.agg #[.int .i64 a0_0,.int .i64 a0_1,.slice A0_2 l0_2.length c0_2]] w fun e w' => ∃ v2_ : Value,e = .returned (.agg #[.int .i64 r1,.int .i64 r2,v2_]) ∧ Kd.S k101 101 w' w.heap.size (fun _ => True) v2_ r3 ∧ Below w.heap.size w w' := by
 have hu56 := Try.underlying56;have hu61 := Try.underlying61;have HR0_2 := aS hr0_2;have HC0_2 := aS hc0_2;clear hr0_2 hc0_2;have HB := aS (Below.refl w.heap.size w);have H : ((laws_toCachedS.f k l0_2).bind fun t104 => (some (a0_0,a0_1,t104))) = some (r1,r2,r3) := h;clear h;obtain ⟨t104,A20,H⟩ := bE H;have A2 := aS A20;clear A20;simp only [Option.some.injEq,Prod.mk.injEq] at H;obtain ⟨rfl,rfl,rfl⟩ := H;go_enter Try.func34,Try.ntmps34;go_wp2_with (first | ((with_reducible refine gate_dst (N := 1) rfl ?_);refine boxE (w := w) oL (cs := #[.int .i64 a0_0,.int .i64 a0_1,.slice A0_2 l0_2.length c0_2]) (t := 56) ?_;clear HB;intro gb101 w3 HB BK101 GW101;have GE101 := GW101) | ((with_reducible refine gate_dst (N := 2) rfl ?_);refine box_event ?hg (N := 2) ?hd (cs := #[.int .i64 0,.int .i64 0,.slice none 0 0]) (t := 61) ?hr ?_;(case hd => rfl);(case hg => rfl);(case hr => first | (go_simp;done) | (go_simp;rfl));intro gb102 hg w4 hbox hb;have n0_ := aS (blk_below (oB BK101.out) hb);have n1_ := aS (below_step oL hb);have n2_ := aS (hbox);have n3_ := aS ((oS hg oL : w.heap.size ≤ gb102));have n4_ := aS ((oS hg oL : w.heap.size ≤ gb102));have n5_ := aS ((oN hg (oB BK101.out) : gb101 ≠ gb102));have n6_ := aS ((oM hg (oB BK101.out) : gb102 ≠ gb101));clear BK101;clear HB;have BK101 := n0_;have HB := n1_;have BK102 := n2_;have GW102 := n3_;have GE102 := n4_;have NB101_102 := n5_;have NB102_101 := n6_;clear n0_ n1_ n2_ n3_ n4_ n5_ n6_;clear hb hbox hg) | ((with_reducible refine gate_dst (N := 3) rfl ?_);refine box_event ?hg (N := 3) ?hd (cs := #[.int .i64 0,.int .i64 0,.slice none 0 0]) (t := 61) ?hr ?_;(case hd => rfl);(case hg => rfl);(case hr => first | (go_simp;done) | (go_simp;rfl));intro gb103 hg w5 hbox hb;have n0_ := aS (blk_below (oB BK101.out) hb);have n1_ := aS (blk_below (oB BK102.out) hb);have n2_ := aS (below_step oL hb);have n3_ := aS (hbox);have n4_ := aS ((oS hg oL : w.heap.size ≤ gb103));have n5_ := aS ((oS hg oL : w.heap.size ≤ gb103));have n6_ := aS ((oN hg (oB BK101.out) : gb101 ≠ gb103));have n7_ := aS ((oM hg (oB BK101.out) : gb103 ≠ gb101));have n8_ := aS ((oN hg (oB BK102.out) : gb102 ≠ gb103));have n9_ := aS ((oM hg (oB BK102.out) : gb103 ≠ gb102));clear BK101;clear BK102;clear HB;have BK101 := n0_;have BK102 := n1_;have HB := n2_;have BK103 := n3_;have GW103 := n4_;have GE103 := n5_;have NB101_103 := n6_;have NB103_101 := n7_;have NB102_103 := n8_;have NB103_102 := n9_;clear n0_ n1_ n2_ n3_ n4_ n5_ n6_ n7_ n8_ n9_;clear hb hbox hg;have hnb6 := NB101_102.out;have hnc6 := NB102_101.out;have hnb7 := NB101_103.out;have hnc7 := NB103_101.out;obtain ⟨Z8_0,Z8_1,Z8_2⟩ := cz3 BK101.out;obtain ⟨Y8_0,Y8_1,Y8_2⟩ := fz3 BK101.out;have hnb9 := NB103_102.out;have hnc9 := NB102_103.out;obtain ⟨Z10_0,Z10_1,Z10_2⟩ := cz3 BK103.out;obtain ⟨Y10_0,Y10_1,Y10_2⟩ := fz3 BK103.out) | ((with_reducible refine gate_callee (f := 75) rfl ?_);refine goesL_ (some 12) rfl rfl Try.func75 (by kernel_rfl) rfl #[.slice A0_2 l0_2.length c0_2] rfl (by (try simp only [List.map_toArray,List.map_cons,List.map_nil]);first | done | rfl | (simp only [List.length_drop,List.length_take];rfl)) ?_;(with_reducible refine (laws_toCachedS.calls k _ _ l0_2 t104 _ ?side1 ?side2 A2.out).mono ?_);(case side1 => exact Kd.C_below HR0_2.out oL);(case side2 => exact HC0_2.out);rintro e w11 ⟨v105,rfl,ho0,hb⟩;refine ⟨_,rfl,?_⟩;have n0_ := aS (Kd.S_lower ho0 (below_size oL));have n1_ := aS (blk_below (oG BK101.out NB101_103.out) hb);have n2_ := aS (blk_below (oG BK102.out NB102_103.out) hb);have n3_ := aS (blk_below (g := gb103) (o := .cells #[.int .i64 a0_0,.int .i64 a0_1,.slice none 0 0] 61 (0,0)) (oP BK103.out) hb);have n4_ := aS (below_step oL hb);clear BK101;clear BK102;clear BK103;clear HB;have HO106 := n0_;have BK101 := n1_;have BK102 := n2_;have BK103 := n3_;have HB := n4_;clear n0_ n1_ n2_ n3_ n4_;(try clear hb);(try clear hb2);(try clear hk);(try clear hi);(try clear ho0);obtain ⟨Ao12,co12,eo12⟩ := Kd.S_slice HO106.out;subst eo12;obtain ⟨Z13_0,Z13_1,Z13_2⟩ := cz3 BK103.out;obtain ⟨Y13_0,Y13_1,Y13_2⟩ := fz3 BK103.out;obtain ⟨Z14_0,Z14_1,Z14_2⟩ := cz3 BK102.out;obtain ⟨Y14_0,Y14_1,Y14_2⟩ := fz3 BK102.out));refine bodyPost_ret (results_cell_row rfl _ _ gb102 61 #[.int .i64 a0_0,.int .i64 a0_1,.slice Ao12 t104.length co12] (0,0) _ rfl (oP BK102.out) Try.underlying61 rfl (by kernel_rfl)) rfl ?_;exact ⟨_,oE,by (with_reducible repeat (first | apply Kd.S_alloc | apply Kd.S_drewN | apply Kd.S_drew));exact Kd.S_mono (Kd.S_far (p := ⟨gb102,2,none⟩) (Kd.S_far (p := ⟨gb102,1,none⟩) (Kd.S_far (p := ⟨gb102,0,none⟩) (Kd.S_far (p := ⟨gb103,2,none⟩) (Kd.S_types (Kd.S_types HO106.out BK103.out (by decide)) BK102.out (by decide)) (fun _ hk => hk.1.2) (.slice Ao12 t104.length co12)) (fun _ hk => hk.2) (.int .i64 a0_0)) (fun _ hk => hk.2) (.int .i64 a0_1)) (fun _ hk => hk.2) (.slice Ao12 t104.length co12)) (fun _ hk => trivial),oL⟩

/-! ### impl_within: function 58 -/
def impl_within.f (a0 : Int) (a1 : Int) (a2 : Int) : Option (Bool) := if a0 ≥ a1 then (some (decide (a0 ≤ a2))) else (some false)
set_option maxHeartbeats 8000000 in
set_option maxRecDepth 100000 in
theorem impl_within.calls (a0 : Int) (a1 : Int) (a2 : Int) (r : Bool) (w : World) (h : impl_within.f a0 a1 a2 = some r) :
  Calls Try.prog 58 #[.int .i64 a0,.int .i64 a1,.int .i64 a2] w fun e w' => e = .returned (.bool r) ∧ Drawn0 w w' := by
 have H : (if a0 ≥ a1 then (some (decide (a0 ≤ a2))) else (some false)) = some r := h;clear h;by_cases c4 : a0 ≥ a1;{rw [if_pos c4] at H;have c4b0 : decide (a1 ≤ a0) = true := decide_eq_true c4;clear c4;obtain rfl := Option.some.inj H;go_enter Try.func58,Try.ntmps58;go_wp2;go_ret;exact ⟨by first | rfl | (simp;done) | (simp [*];done),by repeat (first | exact Drawn0.refl _ | apply Drawn0.step)⟩};{rw [if_neg c4] at H;have c4b0 : decide (a1 ≤ a0) = false := decide_eq_false c4;clear c4;obtain rfl := Option.some.inj H;go_enter Try.func58,Try.ntmps58;go_wp2;go_ret;exact ⟨by first | rfl | (simp;done) | (simp [*];done),by repeat (first | exact Drawn0.refl _ | apply Drawn0.step)⟩}

/-! ### impl_isSize: function 69 -/
def impl_isSize.f (a0 : Int) : Option (Bool) := if a0 = 1 then (some true) else (some (a0 == 2))
set_option maxHeartbeats 8000000 in
set_option maxRecDepth 100000 in
theorem impl_isSize.calls (a0 : Int) (r : Bool) (w : World) (h : impl_isSize.f a0 = some r) :
  Calls Try.prog 69 #[.int .i64 a0] w fun e w' => e = .returned (.bool r) ∧ Drawn0 w w' := by
 have H : (if a0 = 1 then (some true) else (some (a0 == 2))) = some r := h;clear h;by_cases c2 : a0 = 1;{rw [if_pos c2] at H;obtain ⟨c2b0,c2b1⟩ := eT c2;clear c2;obtain rfl := Option.some.inj H;go_enter Try.func69,Try.ntmps69;go_wp2;go_ret;exact ⟨by first | rfl | (simp;done) | (simp [*];done),by repeat (first | exact Drawn0.refl _ | apply Drawn0.step)⟩};{rw [if_neg c2] at H;obtain ⟨c2b0,c2b1⟩ := eF c2;obtain rfl := Option.some.inj H;go_enter Try.func69,Try.ntmps69;go_wp2;go_ret;exact ⟨by first | rfl | (simp;done) | (simp [*];done),by repeat (first | exact Drawn0.refl _ | apply Drawn0.step)⟩}

/-! ### impl_isWord: function 68 -/
def impl_isWord.f (a0 : Int) : Option (Bool) := (impl_within.f a0 0 65535).bind fun t101 => (some t101)
set_option maxHeartbeats 8000000 in
set_option maxRecDepth 100000 in
theorem impl_isWord.calls (a0 : Int) (r : Bool) (w : World) (h : impl_isWord.f a0 = some r) :
  Calls Try.prog 68 #[.int .i64 a0] w fun e w' => e = .returned (.bool r) ∧ Drawn0 w w' := by
 have H : ((impl_within.f a0 0 65535).bind fun t101 => (some t101)) = some r := h;clear h;obtain ⟨t101,A20,H⟩ := bE H;have A2 := aS A20;clear A20;obtain rfl := Option.some.inj H;go_enter Try.func68,Try.ntmps68;go_wp2_with (first | ((with_reducible refine gate_callee (f := 58) rfl ?_);refine goesQ (some 4) Try.func58 #[.int .i64 a0,.int .i64 0,.int .i64 65535] (impl_within.calls a0 0 65535 t101 _ A2.out) fun nd => ?_));go_ret;exact ⟨by first | rfl | (simp;done) | (simp [*];done),by repeat (first | exact Drawn0.refl _ | apply Drawn0.step)⟩

/-! ### impl_needsExt: function 127 -/
def impl_needsExt.f (a0 : Int) : Option (Bool) := if a0 = 5 then (some true) else (if a0 = 6 then (some true) else (some (a0 == 7)))
set_option maxHeartbeats 8000000 in
set_option maxRecDepth 100000 in
theorem impl_needsExt.calls (a0 : Int) (r : Bool) (w : World) (h : impl_needsExt.f a0 = some r) :
  Calls Try.prog 127 #[.int .i64 a0] w fun e w' => e = .returned (.bool r) ∧ Drawn0 w w' := by
 have H : (if a0 = 5 then (some true) else (if a0 = 6 then (some true) else (some (a0 == 7)))) = some r := h;clear h;by_cases c2 : a0 = 5;{rw [if_pos c2] at H;obtain ⟨c2b0,c2b1⟩ := eT c2;clear c2;obtain rfl := Option.some.inj H;go_enter Try.func127,Try.ntmps127;go_wp2;go_ret;exact ⟨by first | rfl | (simp;done) | (simp [*];done),by repeat (first | exact Drawn0.refl _ | apply Drawn0.step)⟩}
 ·
  rw [if_neg c2] at H;obtain ⟨c2b0,c2b1⟩ := eF c2;by_cases c3 : a0 = 6;{rw [if_pos c3] at H;obtain ⟨c3b0,c3b1⟩ := eT c3;clear c3;obtain rfl := Option.some.inj H;go_enter Try.func127,Try.ntmps127;go_wp2;go_ret;exact ⟨by first | rfl | (simp;done) | (simp [*];done),by repeat (first | exact Drawn0.refl _ | apply Drawn0.step)⟩};{rw [if_neg c3] at H;obtain ⟨c3b0,c3b1⟩ := eF c3;obtain rfl := Option.some.inj H;go_enter Try.func127,Try.ntmps127;go_wp2;go_ret;exact ⟨by first | rfl | (simp;done) | (simp [*];done),by repeat (first | exact Drawn0.refl _ | apply Drawn0.step)⟩}

/-! ### impl_GoodOperand: function 108 -/
def impl_GoodOperand.f (a0_0 : Int) (a0_1 : Int) (a0_2 : Int) : Option (Bool) := (impl_within.f a0_0 0 7).bind fun t102 => (if t102 = true then ((impl_isWord.f a0_2).bind fun t103 => (if t103 = true then ((impl_needsExt.f a0_0).bind fun t104 => (if t104 = true then ((impl_within.f a0_1 0 3).bind fun t105 => (if t105 = true then (if a0_1 = 0 then (some true) else (some (decide (a0_0 < 6)))) else (some false))) else (if a0_2 = 0 then ((impl_within.f a0_1 0 3).bind fun t106 => (if t106 = true then (if a0_1 = 0 then (some true) else (some (decide (a0_0 < 6)))) else (some false))) else (some false)))) else (some false))) else (some false))
set_option maxHeartbeats 8000000 in
set_option maxRecDepth 100000 in
theorem impl_GoodOperand.calls (a0_0 : Int) (a0_1 : Int) (a0_2 : Int) (r : Bool) (w : World) (h : impl_GoodOperand.f a0_0 a0_1 a0_2 = some r) :
  Calls Try.prog 108 #[.agg #[.int .i64 a0_0,.int .i64 a0_1,.int .i64 a0_2]] w fun e w' => e = .returned (.bool r) ∧ Below w.heap.size w w' := by
 have hu75 := Try.underlying75;have HB := aS (Below.refl w.heap.size w);have H : ((impl_within.f a0_0 0 7).bind fun t102 => (if t102 = true then ((impl_isWord.f a0_2).bind fun t103 => (if t103 = true then ((impl_needsExt.f a0_0).bind fun t104 => (if t104 = true then ((impl_within.f a0_1 0 3).bind fun t105 => (if t105 = true then (if a0_1 = 0 then (some true) else (some (decide (a0_0 < 6)))) else (some false))) else (if a0_2 = 0 then ((impl_within.f a0_1 0 3).bind fun t106 => (if t106 = true then (if a0_1 = 0 then (some true) else (some (decide (a0_0 < 6)))) else (some false))) else (some false)))) else (some false))) else (some false))) = some r := h;clear h;obtain ⟨t102,A20,H⟩ := bE H;have A2 := aS A20;clear A20;by_cases c3 : t102 = true
 ·
  subst c3;replace H := iT H;obtain ⟨t103,A40,H⟩ := bE H;have A4 := aS A40;clear A40;by_cases c5 : t103 = true
  ·
   subst c5;replace H := iT H;obtain ⟨t104,A60,H⟩ := bE H;have A6 := aS A60;clear A60;by_cases c7 : t104 = true
   ·
    subst c7;replace H := iT H;obtain ⟨t105,A80,H⟩ := bE H;have A8 := aS A80;clear A80;by_cases c9 : t105 = true
    ·
     subst c9;replace H := iT H;by_cases c10 : a0_1 = 0
     ·
      rw [if_pos c10] at H;obtain ⟨c10b0,c10b1⟩ := eT c10;clear c10;obtain rfl := Option.some.inj H;go_enter Try.func108,Try.ntmps108;go_wp2_with (first | ((with_reducible refine gate_dst (N := 1) rfl ?_);refine boxE (w := w) oL (cs := #[.int .i64 a0_0,.int .i64 a0_1,.int .i64 a0_2]) (t := 75) ?_;clear HB;intro gb101 w11 HB BK101 GW101;have GE101 := GW101;obtain ⟨Z12_0,Z12_1,Z12_2⟩ := cz3 BK101.out;obtain ⟨Y12_0,Y12_1,Y12_2⟩ := fz3 BK101.out) | ((with_reducible refine gate_callee (f := 58) rfl ?_);refine goesQ (some 5) Try.func58 #[.int .i64 a0_0,.int .i64 0,.int .i64 7] (impl_within.calls a0_0 0 7 true _ A2.out) fun nd => ?_) | (go_at_call 68;(with_reducible refine (impl_isWord.calls a0_2 true _ A4.out).mono ?_);rintro e w' ⟨rfl,⟨nd,rfl⟩⟩) | (go_at_call 127;(with_reducible refine (impl_needsExt.calls a0_0 true _ A6.out).mono ?_);rintro e w' ⟨rfl,⟨nd,rfl⟩⟩) | ((with_reducible refine gate_callee (f := 58) rfl ?_);refine goesQ (some 26) Try.func58 #[.int .i64 a0_1,.int .i64 0,.int .i64 3] (impl_within.calls a0_1 0 3 true _ A8.out) fun nd => ?_));go_ret;exact ⟨oE,oL⟩
     ·
      rw [if_neg c10] at H;obtain ⟨c10b0,c10b1⟩ := eF c10;obtain rfl := Option.some.inj H;go_enter Try.func108,Try.ntmps108;go_wp2_with (first | ((with_reducible refine gate_dst (N := 1) rfl ?_);refine boxE (w := w) oL (cs := #[.int .i64 a0_0,.int .i64 a0_1,.int .i64 a0_2]) (t := 75) ?_;clear HB;intro gb101 w13 HB BK101 GW101;have GE101 := GW101;obtain ⟨Z14_0,Z14_1,Z14_2⟩ := cz3 BK101.out;obtain ⟨Y14_0,Y14_1,Y14_2⟩ := fz3 BK101.out) | ((with_reducible refine gate_callee (f := 58) rfl ?_);refine goesQ (some 5) Try.func58 #[.int .i64 a0_0,.int .i64 0,.int .i64 7] (impl_within.calls a0_0 0 7 true _ A2.out) fun nd => ?_) | (go_at_call 68;(with_reducible refine (impl_isWord.calls a0_2 true _ A4.out).mono ?_);rintro e w' ⟨rfl,⟨nd,rfl⟩⟩) | (go_at_call 127;(with_reducible refine (impl_needsExt.calls a0_0 true _ A6.out).mono ?_);rintro e w' ⟨rfl,⟨nd,rfl⟩⟩) | ((with_reducible refine gate_callee (f := 58) rfl ?_);refine goesQ (some 26) Try.func58 #[.int .i64 a0_1,.int .i64 0,.int .i64 3] (impl_within.calls a0_1 0 3 true _ A8.out) fun nd => ?_));go_ret;exact ⟨oE,oL⟩
    ·
     replace c9 := Bool.eq_false_iff.mpr c9;subst c9;replace H := iF H;obtain rfl := Option.some.inj H;go_enter Try.func108,Try.ntmps108;go_wp2_with (first | ((with_reducible refine gate_dst (N := 1) rfl ?_);refine boxE (w := w) oL (cs := #[.int .i64 a0_0,.int .i64 a0_1,.int .i64 a0_2]) (t := 75) ?_;clear HB;intro gb101 w15 HB BK101 GW101;have GE101 := GW101;obtain ⟨Z16_0,Z16_1,Z16_2⟩ := cz3 BK101.out;obtain ⟨Y16_0,Y16_1,Y16_2⟩ := fz3 BK101.out) | ((with_reducible refine gate_callee (f := 58) rfl ?_);refine goesQ (some 5) Try.func58 #[.int .i64 a0_0,.int .i64 0,.int .i64 7] (impl_within.calls a0_0 0 7 true _ A2.out) fun nd => ?_) | (go_at_call 68;(with_reducible refine (impl_isWord.calls a0_2 true _ A4.out).mono ?_);rintro e w' ⟨rfl,⟨nd,rfl⟩⟩) | (go_at_call 127;(with_reducible refine (impl_needsExt.calls a0_0 true _ A6.out).mono ?_);rintro e w' ⟨rfl,⟨nd,rfl⟩⟩) | ((with_reducible refine gate_callee (f := 58) rfl ?_);refine goesQ (some 26) Try.func58 #[.int .i64 a0_1,.int .i64 0,.int .i64 3] (impl_within.calls a0_1 0 3 false _ A8.out) fun nd => ?_));go_ret;exact ⟨oE,oL⟩
   ·
    replace c7 := Bool.eq_false_iff.mpr c7;subst c7;replace H := iF H;by_cases c17 : a0_2 = 0
    ·
     rw [if_pos c17] at H;obtain ⟨c17b0,c17b1⟩ := eT c17;clear c17;obtain ⟨t106,A180,H⟩ := bE H;have A18 := aS A180;clear A180;by_cases c19 : t106 = true
     ·
      subst c19;replace H := iT H;by_cases c20 : a0_1 = 0
      ·
       rw [if_pos c20] at H;obtain ⟨c20b0,c20b1⟩ := eT c20;clear c20;obtain rfl := Option.some.inj H;go_enter Try.func108,Try.ntmps108;go_wp2_with (first | ((with_reducible refine gate_dst (N := 1) rfl ?_);refine boxE (w := w) oL (cs := #[.int .i64 a0_0,.int .i64 a0_1,.int .i64 a0_2]) (t := 75) ?_;clear HB;intro gb101 w21 HB BK101 GW101;have GE101 := GW101;obtain ⟨Z22_0,Z22_1,Z22_2⟩ := cz3 BK101.out;obtain ⟨Y22_0,Y22_1,Y22_2⟩ := fz3 BK101.out) | ((with_reducible refine gate_callee (f := 58) rfl ?_);refine goesQ (some 5) Try.func58 #[.int .i64 a0_0,.int .i64 0,.int .i64 7] (impl_within.calls a0_0 0 7 true _ A2.out) fun nd => ?_) | (go_at_call 68;(with_reducible refine (impl_isWord.calls a0_2 true _ A4.out).mono ?_);rintro e w' ⟨rfl,⟨nd,rfl⟩⟩) | (go_at_call 127;(with_reducible refine (impl_needsExt.calls a0_0 false _ A6.out).mono ?_);rintro e w' ⟨rfl,⟨nd,rfl⟩⟩) | ((with_reducible refine gate_callee (f := 58) rfl ?_);refine goesQ (some 26) Try.func58 #[.int .i64 a0_1,.int .i64 0,.int .i64 3] (impl_within.calls a0_1 0 3 true _ A18.out) fun nd => ?_));go_ret;exact ⟨oE,oL⟩
      ·
       rw [if_neg c20] at H;obtain ⟨c20b0,c20b1⟩ := eF c20;obtain rfl := Option.some.inj H;go_enter Try.func108,Try.ntmps108;go_wp2_with (first | ((with_reducible refine gate_dst (N := 1) rfl ?_);refine boxE (w := w) oL (cs := #[.int .i64 a0_0,.int .i64 a0_1,.int .i64 a0_2]) (t := 75) ?_;clear HB;intro gb101 w23 HB BK101 GW101;have GE101 := GW101;obtain ⟨Z24_0,Z24_1,Z24_2⟩ := cz3 BK101.out;obtain ⟨Y24_0,Y24_1,Y24_2⟩ := fz3 BK101.out) | ((with_reducible refine gate_callee (f := 58) rfl ?_);refine goesQ (some 5) Try.func58 #[.int .i64 a0_0,.int .i64 0,.int .i64 7] (impl_within.calls a0_0 0 7 true _ A2.out) fun nd => ?_) | (go_at_call 68;(with_reducible refine (impl_isWord.calls a0_2 true _ A4.out).mono ?_);rintro e w' ⟨rfl,⟨nd,rfl⟩⟩) | (go_at_call 127;(with_reducible refine (impl_needsExt.calls a0_0 false _ A6.out).mono ?_);rintro e w' ⟨rfl,⟨nd,rfl⟩⟩) | ((with_reducible refine gate_callee (f := 58) rfl ?_);refine goesQ (some 26) Try.func58 #[.int .i64 a0_1,.int .i64 0,.int .i64 3] (impl_within.calls a0_1 0 3 true _ A18.out) fun nd => ?_));go_ret;exact ⟨oE,oL⟩
     ·
      replace c19 := Bool.eq_false_iff.mpr c19;subst c19;replace H := iF H;obtain rfl := Option.some.inj H;go_enter Try.func108,Try.ntmps108;go_wp2_with (first | ((with_reducible refine gate_dst (N := 1) rfl ?_);refine boxE (w := w) oL (cs := #[.int .i64 a0_0,.int .i64 a0_1,.int .i64 a0_2]) (t := 75) ?_;clear HB;intro gb101 w25 HB BK101 GW101;have GE101 := GW101;obtain ⟨Z26_0,Z26_1,Z26_2⟩ := cz3 BK101.out;obtain ⟨Y26_0,Y26_1,Y26_2⟩ := fz3 BK101.out) | ((with_reducible refine gate_callee (f := 58) rfl ?_);refine goesQ (some 5) Try.func58 #[.int .i64 a0_0,.int .i64 0,.int .i64 7] (impl_within.calls a0_0 0 7 true _ A2.out) fun nd => ?_) | (go_at_call 68;(with_reducible refine (impl_isWord.calls a0_2 true _ A4.out).mono ?_);rintro e w' ⟨rfl,⟨nd,rfl⟩⟩) | (go_at_call 127;(with_reducible refine (impl_needsExt.calls a0_0 false _ A6.out).mono ?_);rintro e w' ⟨rfl,⟨nd,rfl⟩⟩) | ((with_reducible refine gate_callee (f := 58) rfl ?_);refine goesQ (some 26) Try.func58 #[.int .i64 a0_1,.int .i64 0,.int .i64 3] (impl_within.calls a0_1 0 3 false _ A18.out) fun nd => ?_));go_ret;exact ⟨oE,oL⟩
    ·
     rw [if_neg c17] at H;obtain ⟨c17b0,c17b1⟩ := eF c17;obtain rfl := Option.some.inj H;go_enter Try.func108,Try.ntmps108;go_wp2_with (first | ((with_reducible refine gate_dst (N := 1) rfl ?_);refine boxE (w := w) oL (cs := #[.int .i64 a0_0,.int .i64 a0_1,.int .i64 a0_2]) (t := 75) ?_;clear HB;intro gb101 w27 HB BK101 GW101;have GE101 := GW101;obtain ⟨Z28_0,Z28_1,Z28_2⟩ := cz3 BK101.out;obtain ⟨Y28_0,Y28_1,Y28_2⟩ := fz3 BK101.out) | ((with_reducible refine gate_callee (f := 58) rfl ?_);refine goesQ (some 5) Try.func58 #[.int .i64 a0_0,.int .i64 0,.int .i64 7] (impl_within.calls a0_0 0 7 true _ A2.out) fun nd => ?_) | (go_at_call 68;(with_reducible refine (impl_isWord.calls a0_2 true _ A4.out).mono ?_);rintro e w' ⟨rfl,⟨nd,rfl⟩⟩) | (go_at_call 127;(with_reducible refine (impl_needsExt.calls a0_0 false _ A6.out).mono ?_);rintro e w' ⟨rfl,⟨nd,rfl⟩⟩));go_ret;exact ⟨oE,oL⟩
  ·
   replace c5 := Bool.eq_false_iff.mpr c5;subst c5;replace H := iF H;obtain rfl := Option.some.inj H;go_enter Try.func108,Try.ntmps108;go_wp2_with (first | ((with_reducible refine gate_dst (N := 1) rfl ?_);refine boxE (w := w) oL (cs := #[.int .i64 a0_0,.int .i64 a0_1,.int .i64 a0_2]) (t := 75) ?_;clear HB;intro gb101 w29 HB BK101 GW101;have GE101 := GW101;obtain ⟨Z30_0,Z30_1,Z30_2⟩ := cz3 BK101.out;obtain ⟨Y30_0,Y30_1,Y30_2⟩ := fz3 BK101.out) | ((with_reducible refine gate_callee (f := 58) rfl ?_);refine goesQ (some 5) Try.func58 #[.int .i64 a0_0,.int .i64 0,.int .i64 7] (impl_within.calls a0_0 0 7 true _ A2.out) fun nd => ?_) | (go_at_call 68;(with_reducible refine (impl_isWord.calls a0_2 false _ A4.out).mono ?_);rintro e w' ⟨rfl,⟨nd,rfl⟩⟩));go_ret;exact ⟨oE,oL⟩
 ·
  replace c3 := Bool.eq_false_iff.mpr c3;subst c3;replace H := iF H;obtain rfl := Option.some.inj H;go_enter Try.func108,Try.ntmps108;go_wp2_with (first | ((with_reducible refine gate_dst (N := 1) rfl ?_);refine boxE (w := w) oL (cs := #[.int .i64 a0_0,.int .i64 a0_1,.int .i64 a0_2]) (t := 75) ?_;clear HB;intro gb101 w31 HB BK101 GW101;have GE101 := GW101;obtain ⟨Z32_0,Z32_1,Z32_2⟩ := cz3 BK101.out;obtain ⟨Y32_0,Y32_1,Y32_2⟩ := fz3 BK101.out) | ((with_reducible refine gate_callee (f := 58) rfl ?_);refine goesQ (some 5) Try.func58 #[.int .i64 a0_0,.int .i64 0,.int .i64 7] (impl_within.calls a0_0 0 7 false _ A2.out) fun nd => ?_));go_ret;exact ⟨oE,oL⟩

/-! ### impl_isMemory: function 124 -/
def impl_isMemory.f (a0 : Int) : Option (Bool) := (impl_within.f a0 2 6).bind fun t101 => (some t101)
set_option maxHeartbeats 8000000 in
set_option maxRecDepth 100000 in
theorem impl_isMemory.calls (a0 : Int) (r : Bool) (w : World) (h : impl_isMemory.f a0 = some r) :
  Calls Try.prog 124 #[.int .i64 a0] w fun e w' => e = .returned (.bool r) ∧ Drawn0 w w' := by
 have H : ((impl_within.f a0 2 6).bind fun t101 => (some t101)) = some r := h;clear h;obtain ⟨t101,A20,H⟩ := bE H;have A2 := aS A20;clear A20;obtain rfl := Option.some.inj H;go_enter Try.func124,Try.ntmps124;go_wp2_with (first | ((with_reducible refine gate_callee (f := 58) rfl ?_);refine goesQ (some 4) Try.func58 #[.int .i64 a0,.int .i64 2,.int .i64 6] (impl_within.calls a0 2 6 t101 _ A2.out) fun nd => ?_));go_ret;exact ⟨by first | rfl | (simp;done) | (simp [*];done),by repeat (first | exact Drawn0.refl _ | apply Drawn0.step)⟩

/-! ### impl_isSettable: function 128 -/
def impl_isSettable.f (a0 : Int) : Option (Bool) := if a0 = 0 then (some true) else ((impl_isMemory.f a0).bind fun t101 => (some t101))
set_option maxHeartbeats 8000000 in
set_option maxRecDepth 100000 in
theorem impl_isSettable.calls (a0 : Int) (r : Bool) (w : World) (h : impl_isSettable.f a0 = some r) :
  Calls Try.prog 128 #[.int .i64 a0] w fun e w' => e = .returned (.bool r) ∧ Drawn0 w w' := by
 have H : (if a0 = 0 then (some true) else ((impl_isMemory.f a0).bind fun t101 => (some t101))) = some r := h;clear h;by_cases c2 : a0 = 0;{rw [if_pos c2] at H;obtain ⟨c2b0,c2b1⟩ := eT c2;clear c2;obtain rfl := Option.some.inj H;go_enter Try.func128,Try.ntmps128;go_wp2;go_ret;exact ⟨by first | rfl | (simp;done) | (simp [*];done),by repeat (first | exact Drawn0.refl _ | apply Drawn0.step)⟩}
 ·
  rw [if_neg c2] at H;obtain ⟨c2b0,c2b1⟩ := eF c2;obtain ⟨t101,A30,H⟩ := bE H;have A3 := aS A30;clear A30;obtain rfl := Option.some.inj H;go_enter Try.func128,Try.ntmps128;go_wp2_with (first | (go_at_call 124;(with_reducible refine (impl_isMemory.calls a0 t101 _ A3.out).mono ?_);rintro e w' ⟨rfl,⟨nd,rfl⟩⟩));go_ret;exact ⟨by first | rfl | (simp;done) | (simp [*];done),by repeat (first | exact Drawn0.refl _ | apply Drawn0.step)⟩

/-! ### impl_isPlain: function 129 -/
def impl_isPlain.f (a0 : Int) : Option (Bool) := if a0 = 2 then (some true) else (if a0 = 5 then (some true) else (some (a0 == 6)))
set_option maxHeartbeats 8000000 in
set_option maxRecDepth 100000 in
theorem impl_isPlain.calls (a0 : Int) (r : Bool) (w : World) (h : impl_isPlain.f a0 = some r) :
  Calls Try.prog 129 #[.int .i64 a0] w fun e w' => e = .returned (.bool r) ∧ Drawn0 w w' := by
 have H : (if a0 = 2 then (some true) else (if a0 = 5 then (some true) else (some (a0 == 6)))) = some r := h;clear h;by_cases c2 : a0 = 2;{rw [if_pos c2] at H;obtain ⟨c2b0,c2b1⟩ := eT c2;clear c2;obtain rfl := Option.some.inj H;go_enter Try.func129,Try.ntmps129;go_wp2;go_ret;exact ⟨by first | rfl | (simp;done) | (simp [*];done),by repeat (first | exact Drawn0.refl _ | apply Drawn0.step)⟩}
 ·
  rw [if_neg c2] at H;obtain ⟨c2b0,c2b1⟩ := eF c2;by_cases c3 : a0 = 5;{rw [if_pos c3] at H;obtain ⟨c3b0,c3b1⟩ := eT c3;clear c3;obtain rfl := Option.some.inj H;go_enter Try.func129,Try.ntmps129;go_wp2;go_ret;exact ⟨by first | rfl | (simp;done) | (simp [*];done),by repeat (first | exact Drawn0.refl _ | apply Drawn0.step)⟩};{rw [if_neg c3] at H;obtain ⟨c3b0,c3b1⟩ := eF c3;obtain rfl := Option.some.inj H;go_enter Try.func129,Try.ntmps129;go_wp2;go_ret;exact ⟨by first | rfl | (simp;done) | (simp [*];done),by repeat (first | exact Drawn0.refl _ | apply Drawn0.step)⟩}

/-! ### impl_isNow: function 131 -/
def impl_isNow.f (a0_0 : Int) (a0_1 : Int) (a0_2 : Int) : Option (Bool) := if a0_0 = 7 then (some (decide (a0_2 ≤ 1023))) else (some false)
set_option maxHeartbeats 8000000 in
set_option maxRecDepth 100000 in
theorem impl_isNow.calls (a0_0 : Int) (a0_1 : Int) (a0_2 : Int) (r : Bool) (w : World) (h : impl_isNow.f a0_0 a0_1 a0_2 = some r) :
  Calls Try.prog 131 #[.agg #[.int .i64 a0_0,.int .i64 a0_1,.int .i64 a0_2]] w fun e w' => e = .returned (.bool r) ∧ Below w.heap.size w w' := by
 have hu75 := Try.underlying75;have HB := aS (Below.refl w.heap.size w);have H : (if a0_0 = 7 then (some (decide (a0_2 ≤ 1023))) else (some false)) = some r := h;clear h;by_cases c2 : a0_0 = 7
 ·
  rw [if_pos c2] at H;obtain ⟨c2b0,c2b1⟩ := eT c2;clear c2;obtain rfl := Option.some.inj H;go_enter Try.func131,Try.ntmps131;go_wp2_with (first | ((with_reducible refine gate_dst (N := 1) rfl ?_);refine boxE (w := w) oL (cs := #[.int .i64 a0_0,.int .i64 a0_1,.int .i64 a0_2]) (t := 75) ?_;clear HB;intro gb101 w3 HB BK101 GW101;have GE101 := GW101;obtain ⟨Z4_0,Z4_1,Z4_2⟩ := cz3 BK101.out;obtain ⟨Y4_0,Y4_1,Y4_2⟩ := fz3 BK101.out));go_ret;exact ⟨oE,oL⟩
 ·
  rw [if_neg c2] at H;obtain ⟨c2b0,c2b1⟩ := eF c2;obtain rfl := Option.some.inj H;go_enter Try.func131,Try.ntmps131;go_wp2_with (first | ((with_reducible refine gate_dst (N := 1) rfl ?_);refine boxE (w := w) oL (cs := #[.int .i64 a0_0,.int .i64 a0_1,.int .i64 a0_2]) (t := 75) ?_;clear HB;intro gb101 w5 HB BK101 GW101;have GE101 := GW101;obtain ⟨Z6_0,Z6_1,Z6_2⟩ := cz3 BK101.out;obtain ⟨Y6_0,Y6_1,Y6_2⟩ := fz3 BK101.out));go_ret;exact ⟨oE,oL⟩

/-! ### impl_isFlow: function 130 -/
def impl_isFlow.j0 : Nat → Bool → Int → Int → Int → Int → Int → Int → Int → Option (Bool)
 | 0,_,_,_,_,_,_,_,_ => none
 | k + 1,x3,x102000,x102001,x102002,x102003,x102004,x102005,x102006 => if x3 = true then (some false) else (if x102006 = 3 then (if x102002 = 0 then ((impl_isNow.f x102003 x102004 x102005).bind fun t102 => (some t102)) else (some false)) else (if x102006 < 3 then (if x102002 = 0 then (some (x102003 == 0 && (x102004 == 0 && (x102005 == 0)))) else (some false)) else (some (x102003 == 0 && (x102004 == 0 && (x102005 == 0))))))
def impl_isFlow.f (k : Nat) (a0_0 : Int) (a0_1 : Int) (a0_2 : Int) (a0_3 : Int) (a0_4 : Int) (a0_5 : Int) (a0_6 : Int) : Option (Bool) := if a0_1 = 2 then (impl_isFlow.j0 k (decide (a0_6 > 6)) a0_0 a0_1 a0_2 a0_3 a0_4 a0_5 a0_6) else (impl_isFlow.j0 k true a0_0 a0_1 a0_2 a0_3 a0_4 a0_5 a0_6)
theorem impl_isFlow.mono_l : ∀ k,(∀ y0 y1 y2 y3 y4 y5 y6 y7,LeO (impl_isFlow.j0 k y0 y1 y2 y3 y4 y5 y6 y7) (impl_isFlow.j0 (k + 1) y0 y1 y2 y3 y4 y5 y6 y7))
 | 0 => fun _ _ _ _ _ _ _ _ r h => by simp [impl_isFlow.j0] at h
 | k + 1 => by
  have ih0 := impl_isFlow.mono_l k
  ·
   intro y0 y1 y2 y3 y4 y5 y6 y7
   unfold impl_isFlow.j0
   repeat' first
   | (with_reducible exact ih0 _ _ _ _ _ _ _ _)
   | (with_reducible exact LeO.refl _)
   | (with_reducible exact LeO.none _)
   | (with_reducible refine LeO.ite ?_ ?_)
   | (with_reducible refine LeO.bind ?_ (fun _ => ?_))
   | exact ih0 _ _ _ _ _ _ _ _
   | exact LeO.none _
   | refine LeO.ite ?_ ?_
   | refine LeO.bind ?_ (fun _ => ?_)
theorem impl_isFlow.mono : ∀ a0 a1 a2 a3 a4 a5 a6 k,LeO (impl_isFlow.f k a0 a1 a2 a3 a4 a5 a6) (impl_isFlow.f (k + 1) a0 a1 a2 a3 a4 a5 a6) := by
 intro a0 a1 a2 a3 a4 a5 a6 k
 have ih0 := impl_isFlow.mono_l k
 unfold impl_isFlow.f
 repeat' first
   | (with_reducible exact ih0 _ _ _ _ _ _ _ _)
   | (with_reducible exact LeO.refl _)
   | (with_reducible exact LeO.none _)
   | (with_reducible refine LeO.ite ?_ ?_)
   | (with_reducible refine LeO.bind ?_ (fun _ => ?_))
   | exact ih0 _ _ _ _ _ _ _ _
   | exact LeO.none _
   | refine LeO.ite ?_ ?_
   | refine LeO.bind ?_ (fun _ => ?_)
set_option maxHeartbeats 8000000 in
set_option maxRecDepth 100000 in
theorem impl_isFlow.calls (k : Nat) (a0_0 : Int) (a0_1 : Int) (a0_2 : Int) (a0_3 : Int) (a0_4 : Int) (a0_5 : Int) (a0_6 : Int) (r : Bool) (w : World) (h : impl_isFlow.f k a0_0 a0_1 a0_2 a0_3 a0_4 a0_5 a0_6 = some r) :
  Calls Try.prog 130 #[.agg #[.int .i64 a0_0,.int .i64 a0_1,.int .i64 a0_2,.int .i64 a0_3,.int .i64 a0_4,.int .i64 a0_5,.int .i64 a0_6]] w fun e w' => e = .returned (.bool r) ∧ Below w.heap.size w w' := by
 have hu77 := Try.underlying77;have hu75 := Try.underlying75;have HB := aS (Below.refl w.heap.size w);have H : (if a0_1 = 2 then (impl_isFlow.j0 k (decide (a0_6 > 6)) a0_0 a0_1 a0_2 a0_3 a0_4 a0_5 a0_6) else (impl_isFlow.j0 k true a0_0 a0_1 a0_2 a0_3 a0_4 a0_5 a0_6)) = some r := h;clear h;have HC2 := aS H;clear H;go_enter Try.func130,Try.ntmps130;go_upto_region 1 with (first | ((with_reducible refine gate_dst (N := 1) rfl ?_);refine boxE (w := w) oL (cs := #[.int .i64 a0_0,.int .i64 a0_1,.int .i64 a0_2,.int .i64 a0_3,.int .i64 a0_4,.int .i64 a0_5,.int .i64 a0_6]) (t := 77) ?_;clear HB;intro gb101 w3 HB BK101 GW101;have GE101 := GW101));(try simp only [Act.put,List.setIfInBounds_toArray,List.set_cons_zero,List.set_cons_succ]);go_cut [3] (fun v3 wc => ∃ (kq : Nat) (x3_1 : Bool),v3 = .bool x3_1 ∧ Aside0 (impl_isFlow.j0 kq x3_1 a0_0 a0_1 a0_2 a0_3 a0_4 a0_5 a0_6 = some r) ∧ Aside0 (kq ≤ k) ∧ Aside0 (wc.heap[gb101]? = some (.cells #[.int .i64 a0_0,.int .i64 a0_1,.int .i64 a0_2,.int .i64 a0_3,.int .i64 a0_4,.int .i64 a0_5,.int .i64 a0_6] 77 (0,0))) ∧ Aside0 (Below w.heap.size w wc))
 case first =>
  have H := HC2.out;clear HC2;by_cases c4 : a0_1 = 2;{rw [if_pos c4] at H;obtain ⟨c4b0,c4b1⟩ := eT c4;clear c4;(first | rw [c4b0] | (simp only [i64_w,i32_w];rw [c4b0]) | skip);have H' := aS H;clear H;obtain ⟨Z5_0,Z5_1,Z5_2,Z5_3,Z5_4,Z5_5,Z5_6⟩ := cz7 BK101.out;obtain ⟨Y5_0,Y5_1,Y5_2,Y5_3,Y5_4,Y5_5,Y5_6⟩ := fz7 BK101.out;go_wp2;go_meet;case rel => exact ⟨_,(decide (a0_6 > 6)),oE,H',⟨by first | omega | exact Nat.le_refl _⟩,⟨oB BK101.out⟩,⟨oL⟩⟩};{rw [if_neg c4] at H;obtain ⟨c4b0,c4b1⟩ := eF c4;(first | rw [c4b0] | (simp only [i64_w,i32_w];rw [c4b0]) | skip);have H' := aS H;clear H;obtain ⟨Z6_0,Z6_1,Z6_2,Z6_3,Z6_4,Z6_5,Z6_6⟩ := cz7 BK101.out;obtain ⟨Y6_0,Y6_1,Y6_2,Y6_3,Y6_4,Y6_5,Y6_6⟩ := fz7 BK101.out;go_wp2;go_meet;case rel => exact ⟨_,(true),oE,H',⟨by first | omega | exact Nat.le_refl _⟩,⟨oB BK101.out⟩,⟨oL⟩⟩}
 case rest =>
  clear HC2;(try clear c1);(try clear p2);(try clear c4);(try clear c4b0);(try clear c4b1);(try clear Z5_0 Z5_1 Z5_2 Z5_3 Z5_4 Z5_5 Z5_6);(try clear Z6_0 Z6_1 Z6_2 Z6_3 Z6_4 Z6_5 Z6_6);(try clear Y5_0 Y5_1 Y5_2 Y5_3 Y5_4 Y5_5 Y5_6);(try clear Y6_0 Y6_1 Y6_2 Y6_3 Y6_4 Y6_5 Y6_6);obtain ⟨kq,x3_1,rfl,HA,HJ1,BK101,HB⟩ := hcut;cases kq with
  | zero => exact absurd HA.out (by simp [impl_isFlow.j0])
  | succ kj1 =>
   have H := HA.out;clear HA;simp only [impl_isFlow.j0] at H;by_cases c7 : x3_1 = true;{subst c7;replace H := iT H;obtain rfl := Option.some.inj H;go_wp2;go_ret;exact ⟨oE,oL⟩}
   ·
    replace c7 := Bool.eq_false_iff.mpr c7;subst c7;replace H := iF H;by_cases c8 : a0_6 = 3
    ·
     rw [if_pos c8] at H;obtain ⟨c8b0,c8b1⟩ := eT c8;clear c8;by_cases c9 : a0_2 = 0
     ·
      rw [if_pos c9] at H;obtain ⟨c9b0,c9b1⟩ := eT c9;clear c9;obtain ⟨t102,A100,H⟩ := bE H;have A10 := aS A100;clear A100;obtain rfl := Option.some.inj H;obtain ⟨Z11_0,Z11_1,Z11_2,Z11_3,Z11_4,Z11_5,Z11_6⟩ := cz7 BK101.out;obtain ⟨Y11_0,Y11_1,Y11_2,Y11_3,Y11_4,Y11_5,Y11_6⟩ := fz7 BK101.out;go_wp2_with (first | (go_at_call 131;(with_reducible refine (impl_isNow.calls a0_3 a0_4 a0_5 t102 _ A10.out).mono ?_);rintro e w12 ⟨rfl,hb⟩;have n0_ := aS (blk_below (oB BK101.out) hb);have n1_ := aS (below_step oL hb);clear BK101;clear HB;have BK101 := n0_;have HB := n1_;clear n0_ n1_;(try clear hb);(try clear hb2);(try clear hk);(try clear hi)));go_ret;exact ⟨oE,oL⟩
     · rw [if_neg c9] at H;obtain ⟨c9b0,c9b1⟩ := eF c9;obtain rfl := Option.some.inj H;obtain ⟨Z13_0,Z13_1,Z13_2,Z13_3,Z13_4,Z13_5,Z13_6⟩ := cz7 BK101.out;obtain ⟨Y13_0,Y13_1,Y13_2,Y13_3,Y13_4,Y13_5,Y13_6⟩ := fz7 BK101.out;go_wp2;go_ret;exact ⟨oE,oL⟩
    ·
     rw [if_neg c8] at H;obtain ⟨c8b0,c8b1⟩ := eF c8;by_cases c14 : a0_6 < 3
     ·
      rw [if_pos c14] at H;have c14b0 : decide (a0_6 < 3) = true := decide_eq_true c14;clear c14;by_cases c15 : a0_2 = 0;{rw [if_pos c15] at H;obtain ⟨c15b0,c15b1⟩ := eT c15;clear c15;obtain rfl := Option.some.inj H;obtain ⟨Z16_0,Z16_1,Z16_2,Z16_3,Z16_4,Z16_5,Z16_6⟩ := cz7 BK101.out;obtain ⟨Y16_0,Y16_1,Y16_2,Y16_3,Y16_4,Y16_5,Y16_6⟩ := fz7 BK101.out;go_wp2;go_ret;exact ⟨oE,oL⟩};{rw [if_neg c15] at H;obtain ⟨c15b0,c15b1⟩ := eF c15;obtain rfl := Option.some.inj H;obtain ⟨Z17_0,Z17_1,Z17_2,Z17_3,Z17_4,Z17_5,Z17_6⟩ := cz7 BK101.out;obtain ⟨Y17_0,Y17_1,Y17_2,Y17_3,Y17_4,Y17_5,Y17_6⟩ := fz7 BK101.out;go_wp2;go_ret;exact ⟨oE,oL⟩}
     · rw [if_neg c14] at H;have c14b0 : decide (a0_6 < 3) = false := decide_eq_false c14;clear c14;obtain rfl := Option.some.inj H;obtain ⟨Z18_0,Z18_1,Z18_2,Z18_3,Z18_4,Z18_5,Z18_6⟩ := cz7 BK101.out;obtain ⟨Y18_0,Y18_1,Y18_2,Y18_3,Y18_4,Y18_5,Y18_6⟩ := fz7 BK101.out;go_wp2;go_ret;exact ⟨oE,oL⟩

end Go.Proofs.Ytjnifnhpnccpcaa.G
