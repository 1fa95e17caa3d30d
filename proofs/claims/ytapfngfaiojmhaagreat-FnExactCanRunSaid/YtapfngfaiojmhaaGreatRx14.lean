-- Made by this session's program gprint.py out of the translation. Not trusted: Lean checks it.
import Derived.Test.YtapfngfaiojmhaaGreatRx0
import Derived.Test.YtapfngfaiojmhaaGreatRx13
namespace Go.Proofs.YtapfngfaiojmhaaGreat.R
open Go.RowKit Go.Proofs.YtapfngfaiojmhaaGreatW.PrintWords Go.Proofs.YtapfngfaiojmhaaGreatW.PrintLast Go.Proofs.YtapfngfaiojmhaaGreatW.PrintMore
attribute [local go_sem] max2_int min2_int max_two min_two max_three min_three max_four min_four   -- for this text's walks alone
set_option linter.unusedVariables false
set_option linter.unusedSimpArgs false

/-! ### laws_toMicroS: function 20 -/
def laws_toMicroS.l0 : Nat → List (S88) → List (S76) → Int → Option ((List (S76)))
 | 0,_,_,_ => none
 | k + 1,x0,x3,x4 => if x4 < (x0.length : Int) then (if 0 ≤ x4 then ((laws_toMicro.f ((rd_T88 x0 x4).f0.f0) ((rd_T88 x0 x4).f0.f1) ((rd_T88 x0 x4).f0.f2) ((rd_T88 x0 x4).f0.f3.f0) ((rd_T88 x0 x4).f0.f3.f1) ((rd_T88 x0 x4).f0.f3.f2) ((rd_T88 x0 x4).f0.f4) ((rd_T88 x0 x4).f1) ((rd_T88 x0 x4).f2)).bind fun bt105 => (if x4 < (x3.length : Int) then (laws_toMicroS.l0 k x0 (x3.set (x4 : Int).toNat (⟨(⟨bt105.1,bt105.2.1,bt105.2.2.1,(⟨bt105.2.2.2.1,bt105.2.2.2.2.1,bt105.2.2.2.2.2.1⟩ : S72),bt105.2.2.2.2.2.2.1⟩ : S74),bt105.2.2.2.2.2.2.2.1,bt105.2.2.2.2.2.2.2.2⟩ : S76)) (wrap64 (x4 + 1))) else (none))) else (none)) else (some x3)
def laws_toMicroS.f (k : Nat) (l0 : List (S88)) : Option ((List (S76))) := if 0 ≤ (l0.length : Int) then (if ((l0.length : Int) : Int).toNat ≤ 3909374676536 then (laws_toMicroS.l0 k l0 (List.replicate ((l0.length : Int) : Int).toNat z76) 0) else (none)) else (none)
theorem laws_toMicroS.mono_l : ∀ k,(∀ y0 y1 y2,LeO (laws_toMicroS.l0 k y0 y1 y2) (laws_toMicroS.l0 (k + 1) y0 y1 y2))
 | 0 => fun _ _ _ r h => by simp [laws_toMicroS.l0] at h
 | k + 1 => by
  have ih0 := laws_toMicroS.mono_l k
  ·
   intro y0 y1 y2
   unfold laws_toMicroS.l0
   repeat' first
   | (with_reducible exact ih0 _ _ _)
   | (with_reducible exact LeO.refl _)
   | (with_reducible exact LeO.none _)
   | (with_reducible refine LeO.ite ?_ ?_)
   | (with_reducible refine LeO.bind ?_ (fun _ => ?_))
theorem laws_toMicroS.mono : ∀ a0 k,LeO (laws_toMicroS.f k a0) (laws_toMicroS.f (k + 1) a0) := by
 intro a0 k
 have ih0 := laws_toMicroS.mono_l k
 unfold laws_toMicroS.f
 repeat' first
   | (with_reducible exact ih0 _ _ _)
   | (with_reducible exact LeO.refl _)
   | (with_reducible exact LeO.none _)
   | (with_reducible refine LeO.ite ?_ ?_)
   | (with_reducible refine LeO.bind ?_ (fun _ => ?_))
set_option maxHeartbeats 8000000 in
set_option maxRecDepth 100000 in
theorem laws_toMicroS.calls (k : Nat) (A0 : Option Addr) (c0 : Nat) (l0 : List (S88)) (r : List (S76)) (w : World) (hr0 : Kd.C k88 w A0 l0.length l0) (hc0 : l0.length ≤ c0) (h : laws_toMicroS.f k l0 = some r) :
  Calls Tryz.prog 20 #[.slice A0 l0.length c0] w fun e w' => ∃ v0_ : Value,e = .returned (v0_) ∧ Kd.R k76 76 w' w.heap.size (fun _ => True) v0_ r ∧ Below w.heap.size w w' := by
 have hu88 := Tryz.underlying88;have hu76 := Tryz.underlying76;have HR0 := aS hr0;have HC0 := aS hc0;clear hr0 hc0;have HB := aS (Below.refl w.heap.size w);have H : (if 0 ≤ (l0.length : Int) then (if ((l0.length : Int) : Int).toNat ≤ 3909374676536 then (laws_toMicroS.l0 k l0 (List.replicate ((l0.length : Int) : Int).toNat z76) 0) else (none)) else (none)) = some r := h;clear h;by_cases c2 : 0 ≤ (l0.length : Int)
 ·
  rw [if_pos c2] at H;have c2b0 := eq_true c2;have c2b1 : decide (0 ≤ (l0.length : Int)) = true := decide_eq_true c2;clear c2;by_cases c3 : ((l0.length : Int) : Int).toNat ≤ 3909374676536
  ·
   rw [if_pos c3] at H;have c3b0 := eq_true c3;have c3b1 : decide (((l0.length : Int) : Int).toNat ≤ 3909374676536) = true := decide_eq_true c3;clear c3;obtain ⟨y101,hy101⟩ : ∃ y_ : List (S76),y_ = (List.replicate ((l0.length : Int) : Int).toNat z76) := ⟨_,rfl⟩;replace H : (laws_toMicroS.l0 k l0 y101 0) = some r := by first | (rw [hy101];with_reducible exact H) | (have H2_ := (Option.bind_some _ _).symm.trans H;rw [hy101];with_reducible exact H2_) | (have H2_ := (Option.bind_some _ _).symm.trans H;with_reducible exact H2_) | with_reducible exact H | (rw [hy101];exact H) | exact H
   have Ny101 := aS hy101;clear hy101;have H' := aS H;clear H;go_enter Tryz.func20,Tryz.ntmps20;go_wp2_with (first | ((with_reducible refine gate_dst (N := 7) rfl ?_);refine Kd.R_make k76 _ 76 rfl (N := 7) rfl 44 _ _ rfl (l0.length : Int) rfl rfl Tryz.underlying44 (.agg #[(.int .i64 0),(.int .i64 0),(.int .i64 0),(.int .i64 0),(.int .i64 0),(.int .i64 0),(.int .i64 0),(.int .i64 0),(.bool false)]) 72 info76 rfl (by decide) (by omega) z76 (ok := fun _ => True) (okp := fun _ => True) (k76_mkM _ _ _ z76 ) (fun _ hk => hk) trivial (of_decide_eq_true (by first | (with_reducible assumption) | assumption)) (Nat.le_trans (Nat.mul_le_mul_right _ (of_decide_eq_true (by first | (with_reducible assumption) | assumption) : (l0.length : Int).toNat ≤ 3909374676536)) (by omega)) (Below.refl _ _) (Nat.le_refl _) ?_;intro v102 w4 ho5 hb hg_ hnew_;clear hg_ hnew_;(first | rw [← Ny101.out] at ho5 | (simp only [Int.reduceToNat] at ho5;rw [← Ny101.out] at ho5));refine mk2 (Kd.R_lower ho5 (below_size oL)) (below_step oL hb) ?_;clear HB;intro HO103 HB;clear hb ho5));go_loopg [4] k (fun kq v4 w' => ∃ (x3_1 : List (S76)) (x4_1 : Int),v4 = .int .i64 x4_1 ∧ Aside0 (laws_toMicroS.l0 kq l0 x3_1 x4_1 = some r) ∧ Aside0 (kq ≤ k) ∧ Aside0 (Kd.R k76 76 w' w.heap.size (fun _ => True) v102 x3_1) ∧ Aside0 (Below w.heap.size w w'))
   case atStart => exact ⟨(y101),(0),oE,H',⟨Nat.le_refl _⟩,⟨by (with_reducible repeat (first | apply Kd.R_alloc | apply Kd.R_drewN | apply Kd.R_drew));exact HO103.out⟩,⟨oL⟩⟩
   case round =>
    clear H';obtain ⟨x3_1,x4_1,rfl,HA,HK1,HO_3,HB⟩ := hrel;cases gk with
    | zero => exact absurd HA.out (by simp [laws_toMicroS.l0])
    | succ k1 =>
     have H := HA.out;clear HA;simp only [laws_toMicroS.l0] at H;by_cases c6 : x4_1 < (l0.length : Int)
     ·
      rw [if_pos c6] at H;have c6b0 : decide (x4_1 < (l0.length : Int)) = true := decide_eq_true c6;clear c6;by_cases c7 : 0 ≤ x4_1
      ·
       rw [if_pos c7] at H;have c7b0 : decide (0 ≤ x4_1) = true := decide_eq_true c7;clear c7;replace H := Option.bind_eq_some_iff.mp H;obtain ⟨⟨t105,t106,t107,t108,t109,t110,t111,t112,t113⟩,A80,H⟩ := H;replace H : (if x4_1 < (x3_1.length : Int) then (laws_toMicroS.l0 k1 l0 (x3_1.set (x4_1 : Int).toNat (⟨(⟨t105,t106,t107,(⟨t108,t109,t110⟩ : S72),t111⟩ : S74),t112,t113⟩ : S76)) (wrap64 (x4_1 + 1))) else (none)) = some r := H;have A8 := aS A80;clear A80;by_cases c9 : x4_1 < (x3_1.length : Int)
       ·
        rw [if_pos c9] at H;have c9b0 : decide (x4_1 < (x3_1.length : Int)) = true := decide_eq_true c9;clear c9;obtain ⟨y114,hy114⟩ : ∃ y_ : List (S76),y_ = (x3_1.set (x4_1 : Int).toNat (⟨(⟨t105,t106,t107,(⟨t108,t109,t110⟩ : S72),t111⟩ : S74),t112,t113⟩ : S76)) := ⟨_,rfl⟩;replace H : (laws_toMicroS.l0 k1 l0 y114 (wrap64 (x4_1 + 1))) = some r := by first | (rw [hy114];with_reducible exact H) | (have H2_ := (Option.bind_some _ _).symm.trans H;rw [hy114];with_reducible exact H2_) | (have H2_ := (Option.bind_some _ _).symm.trans H;with_reducible exact H2_) | with_reducible exact H | (rw [hy114];exact H) | exact H
        have Ny114 := aS hy114;clear hy114;have H' := aS H;clear H;have p104 : 0 ≤ (x4_1 : Int) := of_decide_eq_true (by first | (with_reducible assumption) | assumption);have q104 : x4_1 < (l0.length : Int) := of_decide_eq_true (by first | (with_reducible assumption) | assumption);obtain ⟨ad104,e104,hx104_0,hx104_1,hx104_2,hx104_3,hx104_4,hx104_5,hx104_6,hx104_7,hx104_8⟩ := at_T88 HR0.out x4_1 p104 q104;cases e104
        replace hx104_0 := oJ HB hx104_0;replace hx104_1 := oJ HB hx104_1;replace hx104_2 := oJ HB hx104_2;replace hx104_3 := oJ HB hx104_3;replace hx104_4 := oJ HB hx104_4;replace hx104_5 := oJ HB hx104_5;replace hx104_6 := oJ HB hx104_6;replace hx104_7 := oJ HB hx104_7;replace hx104_8 := oJ HB hx104_8;replace p104 := eq_true p104;replace q104 := eq_true q104;go_wp2_with (first | ((with_reducible refine gate_callee (f := 39) rfl ?_);refine goesL_ (some 20) rfl rfl Tryz.func39 (by kernel_rfl) rfl #[.agg #[.int .i64 ((rd_T88 l0 x4_1).f0.f0),.int .i64 ((rd_T88 l0 x4_1).f0.f1),.int .i64 ((rd_T88 l0 x4_1).f0.f2),.int .i64 ((rd_T88 l0 x4_1).f0.f3.f0),.int .i64 ((rd_T88 l0 x4_1).f0.f3.f1),.int .i64 ((rd_T88 l0 x4_1).f0.f3.f2),.int .i64 ((rd_T88 l0 x4_1).f0.f4),.int .i64 ((rd_T88 l0 x4_1).f1),.bool ((rd_T88 l0 x4_1).f2)]] rfl oA ?_;(with_reducible refine (laws_toMicro.calls ((rd_T88 l0 x4_1).f0.f0) ((rd_T88 l0 x4_1).f0.f1) ((rd_T88 l0 x4_1).f0.f2) ((rd_T88 l0 x4_1).f0.f3.f0) ((rd_T88 l0 x4_1).f0.f3.f1) ((rd_T88 l0 x4_1).f0.f3.f2) ((rd_T88 l0 x4_1).f0.f4) ((rd_T88 l0 x4_1).f1) ((rd_T88 l0 x4_1).f2) t105 t106 t107 t108 t109 t110 t111 t112 t113 _ A8.out).mono ?_);rintro e w11 ⟨rfl,hb⟩;refine ⟨_,rfl,?_⟩;refine mk2 (Kd.R_below (oR HO_3.out) hb) (below_step oL hb) ?_;clear HO_3 HB;intro HO_3 HB;have p10 : 0 ≤ (x4_1 : Int) := of_decide_eq_true (by first | (with_reducible assumption) | assumption);have q10 : (x4_1 : Int) < ((x3_1.length : Int) : Int) := of_decide_eq_true (by first | (with_reducible assumption) | assumption);obtain ⟨go10,co10,eo10,gb10,gl10,cl10,HG10⟩ := Kd.R_form HO_3.out (by omega);(first | cases eo10 | (injection eo10 with ea_ en_ ec_;(first | subst ea_ | (injection ea_ with ea_;subst ea_));subst ec_;clear en_));have GB10 := aS gb10;have GG10 := aS HG10;clear gb10 gl10 HG10;obtain ⟨ce10,hcl10,hM10,hcc10,hfr10⟩ := Kd.R_elem HO_3.out z76 (x4_1 : Int) p10 q10;obtain rfl := k76_openM hM10;have hx10_0 : w11.cell? ⟨go10,(x4_1 : Int).toNat * 9,none⟩ = some (.int .i64 ((rd_T76 x3_1 x4_1).f0.f0)) := hcc10 0 _ rfl;have hx10_1 : w11.cell? ⟨go10,(x4_1 : Int).toNat * 9 + 1,none⟩ = some (.int .i64 ((rd_T76 x3_1 x4_1).f0.f1)) := hcc10 1 _ rfl;have hx10_2 : w11.cell? ⟨go10,(x4_1 : Int).toNat * 9 + 2,none⟩ = some (.int .i64 ((rd_T76 x3_1 x4_1).f0.f2)) := hcc10 2 _ rfl;have hx10_3 : w11.cell? ⟨go10,(x4_1 : Int).toNat * 9 + 3,none⟩ = some (.int .i64 ((rd_T76 x3_1 x4_1).f0.f3.f0)) := hcc10 3 _ rfl;have hx10_4 : w11.cell? ⟨go10,(x4_1 : Int).toNat * 9 + 4,none⟩ = some (.int .i64 ((rd_T76 x3_1 x4_1).f0.f3.f1)) := hcc10 4 _ rfl;have hx10_5 : w11.cell? ⟨go10,(x4_1 : Int).toNat * 9 + 5,none⟩ = some (.int .i64 ((rd_T76 x3_1 x4_1).f0.f3.f2)) := hcc10 5 _ rfl;have hx10_6 : w11.cell? ⟨go10,(x4_1 : Int).toNat * 9 + 6,none⟩ = some (.int .i64 ((rd_T76 x3_1 x4_1).f0.f4)) := hcc10 6 _ rfl;have hx10_7 : w11.cell? ⟨go10,(x4_1 : Int).toNat * 9 + 7,none⟩ = some (.int .i64 ((rd_T76 x3_1 x4_1).f1)) := hcc10 7 _ rfl;have hx10_8 : w11.cell? ⟨go10,(x4_1 : Int).toNat * 9 + 8,none⟩ = some (.bool ((rd_T76 x3_1 x4_1).f2)) := hcc10 8 _ rfl;have hf10_0 : w11.frozen? ⟨go10,(x4_1 : Int).toNat * 9,none⟩ = false := hfr10 0;have hf10_1 : w11.frozen? ⟨go10,(x4_1 : Int).toNat * 9 + 1,none⟩ = false := hfr10 1;have hf10_2 : w11.frozen? ⟨go10,(x4_1 : Int).toNat * 9 + 2,none⟩ = false := hfr10 2;have hf10_3 : w11.frozen? ⟨go10,(x4_1 : Int).toNat * 9 + 3,none⟩ = false := hfr10 3;have hf10_4 : w11.frozen? ⟨go10,(x4_1 : Int).toNat * 9 + 4,none⟩ = false := hfr10 4;have hf10_5 : w11.frozen? ⟨go10,(x4_1 : Int).toNat * 9 + 5,none⟩ = false := hfr10 5;have hf10_6 : w11.frozen? ⟨go10,(x4_1 : Int).toNat * 9 + 6,none⟩ = false := hfr10 6;have hf10_7 : w11.frozen? ⟨go10,(x4_1 : Int).toNat * 9 + 7,none⟩ = false := hfr10 7;have hf10_8 : w11.frozen? ⟨go10,(x4_1 : Int).toNat * 9 + 8,none⟩ = false := hfr10 8;clear hcl10 hcc10 hfr10 hM10;replace p10 := eq_true p10;replace q10 := eq_true q10;have HX12 := aS (show Kd.R k76 76 w11 w.heap.size (fun _ => True) (.slice (some ⟨go10,0,none⟩) x3_1.length co10) x3_1 from (oR HO_3.out));obtain ⟨ce12,hcl12,hM12,hcc12,hfr12⟩ := Kd.R_elem HX12.out z76 (x4_1 : Int) (of_decide_eq_true (by first | (with_reducible assumption) | assumption)) (by have h_ : (x4_1 : Int) < ((x3_1.length : Int) : Int) := of_decide_eq_true (by first | (with_reducible assumption) | assumption);first | exact h_ | (have e_ := (Kd.R_reads' HO_3.out).1;omega) | simpa using h_);obtain rfl := k76_openM hM12;have HP12 := Kd.R_seg HX12.out (x4_1 : Int) (of_decide_eq_true (by first | (with_reducible assumption) | assumption)) (by have h_ : (x4_1 : Int) < ((x3_1.length : Int) : Int) := of_decide_eq_true (by first | (with_reducible assumption) | assumption);first | exact h_ | (have e_ := (Kd.R_reads' HO_3.out).1;omega) | simpa using h_) (seg := [.int .i64 t105,.int .i64 t106,.int .i64 t107,.int .i64 t108,.int .i64 t109,.int .i64 t110,.int .i64 t111,.int .i64 t112,.bool t113]) (j := 0) hcl12 hcc12 (show 9 ≤ 9 from by decide) (x' := (⟨(⟨t105,t106,t107,(⟨t108,t109,t110⟩ : S72),t111⟩ : S74),t112,t113⟩ : S76)) (k76_mkM _ _ _ (⟨(⟨t105,t106,t107,(⟨t108,t109,t110⟩ : S72),t111⟩ : S74),t112,t113⟩ : S76) ) (fun _ hk => hk);have hx12_0 := hcc12 0 _ rfl;(try simp only [show (k76).sz = 9 from rfl,Nat.mul_one,Nat.add_zero] at hx12_0);have hf12_0 := hfr12 0;(try simp only [show (k76).sz = 9 from rfl,Nat.mul_one,Nat.add_zero] at hf12_0);have hx12_1 := hcc12 1 _ rfl;(try simp only [show (k76).sz = 9 from rfl,Nat.mul_one,Nat.add_zero] at hx12_1);have hf12_1 := hfr12 1;(try simp only [show (k76).sz = 9 from rfl,Nat.mul_one,Nat.add_zero] at hf12_1);have hx12_2 := hcc12 2 _ rfl;(try simp only [show (k76).sz = 9 from rfl,Nat.mul_one,Nat.add_zero] at hx12_2);have hf12_2 := hfr12 2;(try simp only [show (k76).sz = 9 from rfl,Nat.mul_one,Nat.add_zero] at hf12_2);have hx12_3 := hcc12 3 _ rfl;(try simp only [show (k76).sz = 9 from rfl,Nat.mul_one,Nat.add_zero] at hx12_3);have hf12_3 := hfr12 3;(try simp only [show (k76).sz = 9 from rfl,Nat.mul_one,Nat.add_zero] at hf12_3);have hx12_4 := hcc12 4 _ rfl;(try simp only [show (k76).sz = 9 from rfl,Nat.mul_one,Nat.add_zero] at hx12_4);have hf12_4 := hfr12 4;(try simp only [show (k76).sz = 9 from rfl,Nat.mul_one,Nat.add_zero] at hf12_4);have hx12_5 := hcc12 5 _ rfl;(try simp only [show (k76).sz = 9 from rfl,Nat.mul_one,Nat.add_zero] at hx12_5);have hf12_5 := hfr12 5;(try simp only [show (k76).sz = 9 from rfl,Nat.mul_one,Nat.add_zero] at hf12_5);have hx12_6 := hcc12 6 _ rfl;(try simp only [show (k76).sz = 9 from rfl,Nat.mul_one,Nat.add_zero] at hx12_6);have hf12_6 := hfr12 6;(try simp only [show (k76).sz = 9 from rfl,Nat.mul_one,Nat.add_zero] at hf12_6);have hx12_7 := hcc12 7 _ rfl;(try simp only [show (k76).sz = 9 from rfl,Nat.mul_one,Nat.add_zero] at hx12_7);have hf12_7 := hfr12 7;(try simp only [show (k76).sz = 9 from rfl,Nat.mul_one,Nat.add_zero] at hf12_7);have hx12_8 := hcc12 8 _ rfl;(try simp only [show (k76).sz = 9 from rfl,Nat.mul_one,Nat.add_zero] at hx12_8);have hf12_8 := hfr12 8;(try simp only [show (k76).sz = 9 from rfl,Nat.mul_one,Nat.add_zero] at hf12_8);clear hcl12 hcc12 hfr12 hM12) | ((with_reducible refine gate_store (t := 76) (p := 21) rfl ?_);refine store_event (t := 76) (p := 21) (v := ?vo_w13) (w1 := (((((((((w11.setCell ⟨go10,(x4_1 : Int).toNat * 9,none⟩ (.int .i64 t105)).setCell ⟨go10,(x4_1 : Int).toNat * 9 + 1,none⟩ (.int .i64 t106)).setCell ⟨go10,(x4_1 : Int).toNat * 9 + 2,none⟩ (.int .i64 t107)).setCell ⟨go10,(x4_1 : Int).toNat * 9 + 3,none⟩ (.int .i64 t108)).setCell ⟨go10,(x4_1 : Int).toNat * 9 + 4,none⟩ (.int .i64 t109)).setCell ⟨go10,(x4_1 : Int).toNat * 9 + 5,none⟩ (.int .i64 t110)).setCell ⟨go10,(x4_1 : Int).toNat * 9 + 6,none⟩ (.int .i64 t111)).setCell ⟨go10,(x4_1 : Int).toNat * 9 + 7,none⟩ (.int .i64 t112)).setCell ⟨go10,(x4_1 : Int).toNat * 9 + 8,none⟩ (.bool t113))) ?hg ?ho ?hn ?hr ?_;(case ho => rfl);(case hg => rfl);(case hn => rfl);(case hr => first | (go_simp;done) | (go_simp;rfl));intro w13 hw;have hg : w11.grownBy w13 (some go10) := (by rw [hw];exact HP12.2);have hp_ : Kd.R k76 76 w13 w.heap.size (fun _ => True) (.slice (some ⟨go10,0,none⟩) x3_1.length co10) y114 := (by rw [hw,Ny114.out];exact HP12.1);clear HP12;refine mk2 (hp_) ((by rw [hw];exact below_set (below_set (below_set (below_set (below_set (below_set (below_set (below_set (below_set (HB.out) GB10.out) GB10.out) GB10.out) GB10.out) GB10.out) GB10.out) GB10.out) GB10.out) GB10.out : Below w.heap.size w w13)) ?_;clear HO_3 HB;intro HO_3 HB;clear hg hw hp_));go_roundg k1;case measure => have := HK1.out;omega
        case rel => exact ⟨(y114),(wrap64 (x4_1 + 1)),oE,H',⟨by have := HK1.out;omega⟩,⟨by (with_reducible repeat (first | apply Kd.R_alloc | apply Kd.R_drewN | apply Kd.R_drew));exact HO_3.out⟩,⟨oL⟩⟩
       · rw [if_neg c9] at H;exact absurd H (by simp)
      · rw [if_neg c7] at H;exact absurd H (by simp)
     · rw [if_neg c6] at H;have c6b0 : decide (x4_1 < (l0.length : Int)) = false := decide_eq_false c6;clear c6;obtain rfl := Option.some.inj H;go_wp2;go_ret;exact ⟨_,oE,by (with_reducible repeat (first | apply Kd.R_alloc | apply Kd.R_drewN | apply Kd.R_drew));exact HO_3.out,oL⟩
  · rw [if_neg c3] at H;exact absurd H (by simp)
 · rw [if_neg c2] at H;exact absurd H (by simp)

/-! ### laws_toUnit: function 8 -/
def laws_toUnit.f (k : Nat) (a0_0 : Int) (a0_1 : Int) (l0_2 : List (S88)) : Option (Int × Int × (List (S76))) := (laws_toMicroS.f k l0_2).bind fun t104 => (some (a0_0,a0_1,t104))
theorem laws_toUnit.mono : ∀ a0 a1 a2 k,LeO (laws_toUnit.f k a0 a1 a2) (laws_toUnit.f (k + 1) a0 a1 a2) := by
 intro a0 a1 a2 k
 unfold laws_toUnit.f
 repeat' first
   | (with_reducible exact laws_toMicroS.mono _ _)
   | (with_reducible exact LeO.refl _)
   | (with_reducible exact LeO.none _)
   | (with_reducible refine LeO.ite ?_ ?_)
   | (with_reducible refine LeO.bind ?_ (fun _ => ?_))
set_option maxHeartbeats 8000000 in
set_option maxRecDepth 100000 in
theorem laws_toUnit.calls (k : Nat) (a0_0 : Int) (a0_1 : Int) (A0_2 : Option Addr) (c0_2 : Nat) (l0_2 : List (S88)) (r1 : Int) (r2 : Int) (r3 : List (S76)) (w : World) (hr0_2 : Kd.C k88 w A0_2 l0_2.length l0_2) (hc0_2 : l0_2.length ≤ c0_2) (h : laws_toUnit.f k a0_0 a0_1 l0_2 = some (r1,r2,r3)) :
  Calls Tryz.prog 8 #[.agg #[.int .i64 a0_0,.int .i64 a0_1,.slice A0_2 l0_2.length c0_2]] w fun e w' => ∃ v2_ : Value,e = .returned (.agg #[.int .i64 r1,.int .i64 r2,v2_]) ∧ Kd.R k76 76 w' w.heap.size (fun _ => True) v2_ r3 ∧ Below w.heap.size w w' := by
 have hu32 := Tryz.underlying32;have hu46 := Tryz.underlying46;have HR0_2 := aS hr0_2;have HC0_2 := aS hc0_2;clear hr0_2 hc0_2;have HB := aS (Below.refl w.heap.size w);have H : ((laws_toMicroS.f k l0_2).bind fun t104 => (some (a0_0,a0_1,t104))) = some (r1,r2,r3) := h;clear h;obtain ⟨t104,A20,H⟩ := bE H;have A2 := aS A20;clear A20;simp only [Option.some.injEq,Prod.mk.injEq] at H;obtain ⟨rfl,rfl,rfl⟩ := H;go_enter Tryz.func8,Tryz.ntmps8;go_wp2_with (first | ((with_reducible refine gate_dst (N := 1) rfl ?_);refine boxE (w := w) oL (cs := #[.int .i64 a0_0,.int .i64 a0_1,.slice A0_2 l0_2.length c0_2]) (t := 32) ?_;clear HB;intro gb101 w3 HB BK101 GW101;have GE101 := GW101) | ((with_reducible refine gate_dst (N := 2) rfl ?_);refine box_event ?hg (N := 2) ?hd (cs := #[.int .i64 0,.int .i64 0,.slice none 0 0]) (t := 46) ?hr ?_;(case hd => rfl);(case hg => rfl);(case hr => first | (go_simp;done) | (go_simp;rfl));intro gb102 hg w4 hbox hb;refine mk7 (blk_below (oB BK101.out) hb) (below_step oL hb) (hbox) ((oS hg oL : w.heap.size ≤ gb102)) ((oS hg oL : w.heap.size ≤ gb102)) ((oN hg (oB BK101.out) : gb101 ≠ gb102)) ((oM hg (oB BK101.out) : gb102 ≠ gb101)) ?_;clear BK101 HB;intro BK101 HB BK102 GW102 GE102 NB101_102 NB102_101;clear hb hbox hg) | ((with_reducible refine gate_dst (N := 3) rfl ?_);refine box_event ?hg (N := 3) ?hd (cs := #[.int .i64 0,.int .i64 0,.slice none 0 0]) (t := 46) ?hr ?_;(case hd => rfl);(case hg => rfl);(case hr => first | (go_simp;done) | (go_simp;rfl));intro gb103 hg w5 hbox hb;refine mk10 (blk_below (oB BK101.out) hb) (blk_below (oB BK102.out) hb) (below_step oL hb) (hbox) ((oS hg oL : w.heap.size ≤ gb103)) ((oS hg oL : w.heap.size ≤ gb103)) ((oN hg (oB BK101.out) : gb101 ≠ gb103)) ((oM hg (oB BK101.out) : gb103 ≠ gb101)) ((oN hg (oB BK102.out) : gb102 ≠ gb103)) ((oM hg (oB BK102.out) : gb103 ≠ gb102)) ?_;clear BK101 BK102 HB;intro BK101 BK102 HB BK103 GW103 GE103 NB101_103 NB103_101 NB102_103 NB103_102;clear hb hbox hg;have hnb6 := NB101_102.out;have hnc6 := NB102_101.out;have hnb7 := NB101_103.out;have hnc7 := NB103_101.out;refine zz3 BK101.out ?_;intros;have hnb9 := NB103_102.out;have hnc9 := NB102_103.out;refine zz3 BK103.out ?_;intros) | ((with_reducible refine gate_callee (f := 20) rfl ?_);refine goesL_ (some 12) rfl rfl Tryz.func20 (by kernel_rfl) rfl #[.slice A0_2 l0_2.length c0_2] rfl oA ?_;(with_reducible refine (laws_toMicroS.calls k _ _ l0_2 t104 _ ?side1 ?side2 A2.out).mono ?_);(case side1 => exact Kd.C_below HR0_2.out oL);(case side2 => exact HC0_2.out);rintro e w11 ⟨v105,rfl,ho0,hb⟩;refine ⟨_,rfl,?_⟩;refine mk5 (Kd.R_lower ho0 (below_size oL)) (blk_below (oG BK101.out NB101_103.out) hb) (blk_below (oG BK102.out NB102_103.out) hb) (blk_below (g := gb103) (o := .cells #[.int .i64 a0_0,.int .i64 a0_1,.slice none 0 0] 46 (0,0)) (oP BK103.out) hb) (below_step oL hb) ?_;clear BK101 BK102 BK103 HB;intro HO106 BK101 BK102 BK103 HB;obtain ⟨Ao12,co12,eo12⟩ := Kd.R_slice HO106.out;subst eo12;refine zz3 BK103.out ?_;intros;refine zz3 BK102.out ?_;intros));refine bodyPost_ret (results_cell_row rfl _ _ gb102 46 #[.int .i64 a0_0,.int .i64 a0_1,.slice Ao12 t104.length co12] (0,0) _ rfl (oP BK102.out) Tryz.underlying46 rfl (by kernel_rfl)) rfl ?_;exact ⟨_,oE,by (with_reducible repeat (first | apply Kd.R_alloc | apply Kd.R_drewN | apply Kd.R_drew));exact Kd.R_mono (oEr HO106.out BK103.out BK102.out) (fun _ hk => trivial),oL⟩

/-! ### impl_within: function 42 -/
def impl_within.f (a0 : Int) (a1 : Int) (a2 : Int) : Option (Bool) := if a0 ≥ a1 then (some (decide (a0 ≤ a2))) else (some false)
set_option maxHeartbeats 8000000 in
set_option maxRecDepth 100000 in
theorem impl_within.calls (a0 : Int) (a1 : Int) (a2 : Int) (r : Bool) (w : World) (h : impl_within.f a0 a1 a2 = some r) :
  Calls Tryz.prog 42 #[.int .i64 a0,.int .i64 a1,.int .i64 a2] w fun e w' => e = .returned (.bool r) ∧ Drawn0 w w' := by
 have H : (if a0 ≥ a1 then (some (decide (a0 ≤ a2))) else (some false)) = some r := h;clear h;by_cases c4 : a0 ≥ a1;{rw [if_pos c4] at H;have c4b0 : decide (a1 ≤ a0) = true := decide_eq_true c4;clear c4;obtain rfl := Option.some.inj H;go_enter Tryz.func42,Tryz.ntmps42;go_wp2;go_ret;exact ⟨by first | rfl | (simp;done) | (simp [*];done),by repeat (first | exact Drawn0.refl _ | apply Drawn0.step)⟩};{rw [if_neg c4] at H;have c4b0 : decide (a1 ≤ a0) = false := decide_eq_false c4;clear c4;obtain rfl := Option.some.inj H;go_enter Tryz.func42,Tryz.ntmps42;go_wp2;go_ret;exact ⟨by first | rfl | (simp;done) | (simp [*];done),by repeat (first | exact Drawn0.refl _ | apply Drawn0.step)⟩}

/-! ### impl_isWord: function 67 -/
def impl_isWord.f (a0 : Int) : Option (Bool) := (impl_within.f a0 0 65535).bind fun t101 => (some t101)
set_option maxHeartbeats 8000000 in
set_option maxRecDepth 100000 in
theorem impl_isWord.calls (a0 : Int) (r : Bool) (w : World) (h : impl_isWord.f a0 = some r) :
  Calls Tryz.prog 67 #[.int .i64 a0] w fun e w' => e = .returned (.bool r) ∧ Drawn0 w w' := by
 have H : ((impl_within.f a0 0 65535).bind fun t101 => (some t101)) = some r := h;clear h;obtain ⟨t101,A20,H⟩ := bE H;have A2 := aS A20;clear A20;obtain rfl := Option.some.inj H;go_enter Tryz.func67,Tryz.ntmps67;go_wp2_with (first | ((with_reducible refine gate_callee (f := 42) rfl ?_);refine goesQ (some 4) Tryz.func42 #[.int .i64 a0,.int .i64 0,.int .i64 65535] (impl_within.calls a0 0 65535 t101 _ A2.out) fun nd => ?_));go_ret;exact ⟨by first | rfl | (simp;done) | (simp [*];done),by repeat (first | exact Drawn0.refl _ | apply Drawn0.step)⟩

/-! ### impl_areWords_1: function 89 -/
def impl_areWords_1.f (a0 : Int) : Option (Bool) := (impl_isWord.f a0).bind fun t101 => (some (!t101))
set_option maxHeartbeats 8000000 in
set_option maxRecDepth 100000 in
theorem impl_areWords_1.calls (a0 : Int) (r : Bool) (w : World) (h : impl_areWords_1.f a0 = some r) :
  Calls Tryz.prog 89 #[.int .i64 a0] w fun e w' => e = .returned (.bool r) ∧ Drawn0 w w' := by
 have H : ((impl_isWord.f a0).bind fun t101 => (some (!t101))) = some r := h;clear h;obtain ⟨t101,A20,H⟩ := bE H;have A2 := aS A20;clear A20;obtain rfl := Option.some.inj H;go_enter Tryz.func89,Tryz.ntmps89;go_wp2_with (first | ((with_reducible refine gate_callee (f := 67) rfl ?_);refine goesQ (some 4) Tryz.func67 #[.int .i64 a0] (impl_isWord.calls a0 t101 _ A2.out) fun nd => ?_));go_ret;exact ⟨by first | rfl | (simp;done) | (simp [*];done),by repeat (first | exact Drawn0.refl _ | apply Drawn0.step)⟩

/-! ### slices_IndexFunc_90_g89: function 90 -/
def slices_IndexFunc_90_g89.l0 : Nat → List Int → Int → Int → Option (Int)
 | 0,_,_,_ => none
 | k + 1,x0,x7,x8 => if x8 < x7 then (if 0 ≤ x8 then (if x8 < (x0.length : Int) then ((impl_areWords_1.f (rd x0 x8)).bind fun t102 => (if t102 = true then (some x8) else (slices_IndexFunc_90_g89.l0 k x0 x7 (wrap64 (x8 + 1))))) else (none)) else (none)) else (some (-1))
def slices_IndexFunc_90_g89.f (k : Nat) (l0 : List Int)  : Option (Int) := slices_IndexFunc_90_g89.l0 k l0 (l0.length : Int) 0
theorem slices_IndexFunc_90_g89.mono_l : ∀ k,(∀ y0 y1 y2,LeO (slices_IndexFunc_90_g89.l0 k y0 y1 y2) (slices_IndexFunc_90_g89.l0 (k + 1) y0 y1 y2))
 | 0 => fun _ _ _ r h => by simp [slices_IndexFunc_90_g89.l0] at h
 | k + 1 => by
  have ih0 := slices_IndexFunc_90_g89.mono_l k
  ·
   intro y0 y1 y2
   unfold slices_IndexFunc_90_g89.l0
   repeat' first
   | (with_reducible exact ih0 _ _ _)
   | (with_reducible exact LeO.refl _)
   | (with_reducible exact LeO.none _)
   | (with_reducible refine LeO.ite ?_ ?_)
   | (with_reducible refine LeO.bind ?_ (fun _ => ?_))
theorem slices_IndexFunc_90_g89.mono : ∀ a0 k,LeO (slices_IndexFunc_90_g89.f k a0) (slices_IndexFunc_90_g89.f (k + 1) a0) := by
 intro a0 k
 have ih0 := slices_IndexFunc_90_g89.mono_l k
 unfold slices_IndexFunc_90_g89.f
 repeat' first
   | (with_reducible exact ih0 _ _ _)
   | (with_reducible exact LeO.refl _)
   | (with_reducible exact LeO.none _)
   | (with_reducible refine LeO.ite ?_ ?_)
   | (with_reducible refine LeO.bind ?_ (fun _ => ?_))
set_option maxHeartbeats 8000000 in
set_option maxRecDepth 100000 in
theorem slices_IndexFunc_90_g89.calls (k : Nat) (A0 : Option Addr) (c0 : Nat) (l0 : List Int)  (r : Int) (w : World) (hr0 : Kd.C (Kd.int .i64) w A0 l0.length l0) (hc0 : l0.length ≤ c0) (h : slices_IndexFunc_90_g89.f k l0 = some r) :
  Calls Tryz.prog 90 #[.slice A0 l0.length c0,(.func (.func 89) #[] #[])] w fun e w' => e = .returned (.int .i64 r) ∧ Drawn0 w w' := by
 have HR0 := aS hr0;have HC0 := aS hc0;clear hr0 hc0;have H : (slices_IndexFunc_90_g89.l0 k l0 (l0.length : Int) 0) = some r := h;clear h;have H' := aS H;clear H;go_enter Tryz.func90,Tryz.ntmps90;go_wp2;go_loopg [8] k (fun kq v8 w' => ∃ (x8_1 : Int),v8 = .int .i64 x8_1 ∧ Aside0 (slices_IndexFunc_90_g89.l0 kq l0 (l0.length : Int) x8_1 = some r) ∧ Aside0 (kq ≤ k) ∧ Drawn0 w w')
 case atStart => exact ⟨(0),oE,H',⟨Nat.le_refl _⟩,by repeat (first | exact Drawn0.refl _ | apply Drawn0.step)⟩
 case round =>
  clear H';obtain ⟨x8_1,rfl,HA,HK1,⟨m1,rfl⟩⟩ := hrel;cases gk with
  | zero => exact absurd HA.out (by simp [slices_IndexFunc_90_g89.l0])
  | succ k1 =>
   have H := HA.out;clear HA;simp only [slices_IndexFunc_90_g89.l0] at H;by_cases c3 : x8_1 < (l0.length : Int)
   ·
    rw [if_pos c3] at H;have c3b0 : decide (x8_1 < (l0.length : Int)) = true := decide_eq_true c3;clear c3;by_cases c4 : 0 ≤ x8_1
    ·
     rw [if_pos c4] at H;have c4b0 : decide (0 ≤ x8_1) = true := decide_eq_true c4;clear c4;by_cases c5 : x8_1 < (l0.length : Int)
     ·
      rw [if_pos c5] at H;have c5b0 : decide (x8_1 < (l0.length : Int)) = true := decide_eq_true c5;clear c5;obtain ⟨t102,A60,H⟩ := bE H;have A6 := aS A60;clear A60;by_cases c7 : t102 = true
      ·
       subst c7;replace H := iT H;obtain rfl := Option.some.inj H;have p101 : 0 ≤ (x8_1 : Int) := of_decide_eq_true (by first | (with_reducible assumption) | assumption);have q101 : x8_1 < (l0.length : Int) := of_decide_eq_true (by first | (with_reducible assumption) | assumption);obtain ⟨ad101,e101,hx101_0⟩ := Kd.at_int HR0.out x8_1 p101 q101;cases e101
       replace p101 := eq_true p101;replace q101 := eq_true q101;go_wp2_with (first | (go_at_call 89;(with_reducible refine (impl_areWords_1.calls (rd l0 x8_1) true _ A6.out).mono ?_);rintro e w' ⟨rfl,⟨nd,rfl⟩⟩));go_ret;exact ⟨by first | rfl | (simp;done) | (simp [*];done),by repeat (first | exact Drawn0.refl _ | apply Drawn0.step)⟩
      ·
       replace c7 := Bool.eq_false_iff.mpr c7;subst c7;replace H := iF H;have H' := aS H;clear H;have p101 : 0 ≤ (x8_1 : Int) := of_decide_eq_true (by first | (with_reducible assumption) | assumption);have q101 : x8_1 < (l0.length : Int) := of_decide_eq_true (by first | (with_reducible assumption) | assumption);obtain ⟨ad101,e101,hx101_0⟩ := Kd.at_int HR0.out x8_1 p101 q101;cases e101
       replace p101 := eq_true p101;replace q101 := eq_true q101;go_wp2_with (first | (go_at_call 89;(with_reducible refine (impl_areWords_1.calls (rd l0 x8_1) false _ A6.out).mono ?_);rintro e w' ⟨rfl,⟨nd,rfl⟩⟩));go_roundg k1;case measure => have := HK1.out;omega
       case rel => exact ⟨(wrap64 (x8_1 + 1)),oE,H',⟨by have := HK1.out;omega⟩,by repeat (first | exact Drawn0.refl _ | apply Drawn0.step)⟩
     · rw [if_neg c5] at H;exact absurd H (by simp)
    · rw [if_neg c4] at H;exact absurd H (by simp)
   · rw [if_neg c3] at H;have c3b0 : decide (x8_1 < (l0.length : Int)) = false := decide_eq_false c3;clear c3;obtain rfl := Option.some.inj H;go_wp2;go_ret;exact ⟨by first | rfl | (simp;done) | (simp [*];done),by repeat (first | exact Drawn0.refl _ | apply Drawn0.step)⟩

/-! ### slices_ContainsFunc_69_g89: function 69 -/
def slices_ContainsFunc_69_g89.f (k : Nat) (l0 : List Int)  : Option (Bool) := (slices_IndexFunc_90_g89.f k l0).bind fun t101 => (some (decide (t101 ≥ 0)))
theorem slices_ContainsFunc_69_g89.mono : ∀ a0 k,LeO (slices_ContainsFunc_69_g89.f k a0) (slices_ContainsFunc_69_g89.f (k + 1) a0) := by
 intro a0 k
 unfold slices_ContainsFunc_69_g89.f
 repeat' first
   | (with_reducible exact slices_IndexFunc_90_g89.mono _ _)
   | (with_reducible exact LeO.refl _)
   | (with_reducible exact LeO.none _)
   | (with_reducible refine LeO.ite ?_ ?_)
   | (with_reducible refine LeO.bind ?_ (fun _ => ?_))
set_option maxHeartbeats 8000000 in
set_option maxRecDepth 100000 in
theorem slices_ContainsFunc_69_g89.calls (k : Nat) (A0 : Option Addr) (c0 : Nat) (l0 : List Int)  (r : Bool) (w : World) (hr0 : Kd.C (Kd.int .i64) w A0 l0.length l0) (hc0 : l0.length ≤ c0) (h : slices_ContainsFunc_69_g89.f k l0 = some r) :
  Calls Tryz.prog 69 #[.slice A0 l0.length c0,(.func (.func 89) #[] #[])] w fun e w' => e = .returned (.bool r) ∧ Drawn0 w w' := by
 have HR0 := aS hr0;have HC0 := aS hc0;clear hr0 hc0;have H : ((slices_IndexFunc_90_g89.f k l0).bind fun t101 => (some (decide (t101 ≥ 0)))) = some r := h;clear h;obtain ⟨t101,A30,H⟩ := bE H;have A3 := aS A30;clear A30;obtain rfl := Option.some.inj H;go_enter Tryz.func69,Tryz.ntmps69;go_wp2_with (first | (go_at_call 90;(with_reducible refine (slices_IndexFunc_90_g89.calls k _ _ l0 t101 _ ?side1 ?side2 A3.out).mono ?_);(case side1 => repeat (first | exact HR0.out | (with_reducible refine Kd.C_alloc ?_ _) | (with_reducible refine Kd.C_drewN ?_ _) | (with_reducible refine Kd.C_drew ?_)));(case side2 => exact HC0.out);rintro e w' ⟨rfl,⟨nd,rfl⟩⟩));go_ret;exact ⟨by first | rfl | (simp;done) | (simp [*];done),by repeat (first | exact Drawn0.refl _ | apply Drawn0.step)⟩

/-! ### impl_areWords: function 66 -/
def impl_areWords.f (k : Nat) (l0 : List Int) : Option (Bool) := if (l0.length : Int) = 4 then ((slices_ContainsFunc_69_g89.f k l0).bind fun t101 => (some (!t101))) else (some false)
theorem impl_areWords.mono : ∀ a0 k,LeO (impl_areWords.f k a0) (impl_areWords.f (k + 1) a0) := by
 intro a0 k
 unfold impl_areWords.f
 repeat' first
   | (with_reducible exact slices_ContainsFunc_69_g89.mono _ _)
   | (with_reducible exact LeO.refl _)
   | (with_reducible exact LeO.none _)
   | (with_reducible refine LeO.ite ?_ ?_)
   | (with_reducible refine LeO.bind ?_ (fun _ => ?_))
set_option maxHeartbeats 8000000 in
set_option maxRecDepth 100000 in
theorem impl_areWords.calls (k : Nat) (A0 : Option Addr) (c0 : Nat) (l0 : List Int) (r : Bool) (w : World) (hr0 : Kd.C (Kd.int .i64) w A0 l0.length l0) (hc0 : l0.length ≤ c0) (h : impl_areWords.f k l0 = some r) :
  Calls Tryz.prog 66 #[.slice A0 l0.length c0] w fun e w' => e = .returned (.bool r) ∧ Drawn0 w w' := by
 have HR0 := aS hr0;have HC0 := aS hc0;clear hr0 hc0;have H : (if (l0.length : Int) = 4 then ((slices_ContainsFunc_69_g89.f k l0).bind fun t101 => (some (!t101))) else (some false)) = some r := h;clear h;by_cases c2 : (l0.length : Int) = 4
 ·
  rw [if_pos c2] at H;obtain ⟨c2b0,c2b1⟩ := eT c2;clear c2;obtain ⟨t101,A30,H⟩ := bE H;have A3 := aS A30;clear A30;obtain rfl := Option.some.inj H;go_enter Tryz.func66,Tryz.ntmps66;go_wp2_with (first | (go_at_call 69;(with_reducible refine (slices_ContainsFunc_69_g89.calls k _ _ l0 t101 _ ?side1 ?side2 A3.out).mono ?_);(case side1 => repeat (first | exact HR0.out | (with_reducible refine Kd.C_alloc ?_ _) | (with_reducible refine Kd.C_drewN ?_ _) | (with_reducible refine Kd.C_drew ?_)));(case side2 => exact HC0.out);rintro e w' ⟨rfl,⟨nd,rfl⟩⟩));go_ret;exact ⟨by first | rfl | (simp;done) | (simp [*];done),by repeat (first | exact Drawn0.refl _ | apply Drawn0.step)⟩
 · rw [if_neg c2] at H;obtain ⟨c2b0,c2b1⟩ := eF c2;obtain rfl := Option.some.inj H;go_enter Tryz.func66,Tryz.ntmps66;go_wp2;go_ret;exact ⟨by first | rfl | (simp;done) | (simp [*];done),by repeat (first | exact Drawn0.refl _ | apply Drawn0.step)⟩

/-! ### impl_areFlags: function 68 -/
def impl_areFlags.f (a0 : Int) : Option (Bool) := (impl_within.f a0 0 31).bind fun t101 => (some t101)
set_option maxHeartbeats 8000000 in
set_option maxRecDepth 100000 in
theorem impl_areFlags.calls (a0 : Int) (r : Bool) (w : World) (h : impl_areFlags.f a0 = some r) :
  Calls Tryz.prog 68 #[.int .i64 a0] w fun e w' => e = .returned (.bool r) ∧ Drawn0 w w' := by
 have H : ((impl_within.f a0 0 31).bind fun t101 => (some t101)) = some r := h;clear h;obtain ⟨t101,A20,H⟩ := bE H;have A2 := aS A20;clear A20;obtain rfl := Option.some.inj H;go_enter Tryz.func68,Tryz.ntmps68;go_wp2_with (first | ((with_reducible refine gate_callee (f := 42) rfl ?_);refine goesQ (some 4) Tryz.func42 #[.int .i64 a0,.int .i64 0,.int .i64 31] (impl_within.calls a0 0 31 t101 _ A2.out) fun nd => ?_));go_ret;exact ⟨by first | rfl | (simp;done) | (simp [*];done),by repeat (first | exact Drawn0.refl _ | apply Drawn0.step)⟩

/-! ### impl_GoodRegs: function 40 -/
def impl_GoodRegs.f (k : Nat) (l0_0 : List Int) (l0_1 : List Int) (a0_2 : Int) (a0_3 : Int) (a0_4 : Int) (a0_5 : Int) (a0_6 : Bool) (a0_7 : Bool) : Option (Bool) := (impl_areWords.f k l0_0).bind fun t102 => (if t102 = true then ((impl_areWords.f k l0_1).bind fun t103 => (if t103 = true then ((impl_isWord.f a0_2).bind fun t104 => (if t104 = true then ((impl_isWord.f a0_3).bind fun t105 => (if t105 = true then ((impl_areFlags.f a0_4).bind fun t106 => (if t106 = true then ((impl_within.f a0_5 0 7).bind fun t107 => (some t107)) else (some false))) else (some false))) else (some false))) else (some false))) else (some false))
theorem impl_GoodRegs.mono : ∀ a0 a1 a2 a3 a4 a5 a6 a7 k,LeO (impl_GoodRegs.f k a0 a1 a2 a3 a4 a5 a6 a7) (impl_GoodRegs.f (k + 1) a0 a1 a2 a3 a4 a5 a6 a7) := by
 intro a0 a1 a2 a3 a4 a5 a6 a7 k
 unfold impl_GoodRegs.f
 repeat' first
   | (with_reducible exact impl_areWords.mono _ _)
   | (with_reducible exact LeO.refl _)
   | (with_reducible exact LeO.none _)
   | (with_reducible refine LeO.ite ?_ ?_)
   | (with_reducible refine LeO.bind ?_ (fun _ => ?_))
set_option maxHeartbeats 8000000 in
set_option maxRecDepth 100000 in
theorem impl_GoodRegs.calls (k : Nat) (A0_0 : Option Addr) (c0_0 : Nat) (l0_0 : List Int) (A0_1 : Option Addr) (c0_1 : Nat) (l0_1 : List Int) (a0_2 : Int) (a0_3 : Int) (a0_4 : Int) (a0_5 : Int) (a0_6 : Bool) (a0_7 : Bool) (r : Bool) (w : World) (hr0_0 : Kd.C (Kd.int .i64) w A0_0 l0_0.length l0_0) (hc0_0 : l0_0.length ≤ c0_0) (hr0_1 : Kd.C (Kd.int .i64) w A0_1 l0_1.length l0_1) (hc0_1 : l0_1.length ≤ c0_1) (h : impl_GoodRegs.f k l0_0 l0_1 a0_2 a0_3 a0_4 a0_5 a0_6 a0_7 = some r) :
  Calls Tryz.prog 40 #[.agg #[.slice A0_0 l0_0.length c0_0,.slice A0_1 l0_1.length c0_1,.int .i64 a0_2,.int .i64 a0_3,.int .i64 a0_4,.int .i64 a0_5,.bool a0_6,.bool a0_7]] w fun e w' => e = .returned (.bool r) ∧ Below w.heap.size w w' := by
 have hu37 := Tryz.underlying37;have HR0_0 := aS hr0_0;have HC0_0 := aS hc0_0;clear hr0_0 hc0_0;have HR0_1 := aS hr0_1;have HC0_1 := aS hc0_1;clear hr0_1 hc0_1;have HB := aS (Below.refl w.heap.size w);have H : ((impl_areWords.f k l0_0).bind fun t102 => (if t102 = true then ((impl_areWords.f k l0_1).bind fun t103 => (if t103 = true then ((impl_isWord.f a0_2).bind fun t104 => (if t104 = true then ((impl_isWord.f a0_3).bind fun t105 => (if t105 = true then ((impl_areFlags.f a0_4).bind fun t106 => (if t106 = true then ((impl_within.f a0_5 0 7).bind fun t107 => (some t107)) else (some false))) else (some false))) else (some false))) else (some false))) else (some false))) = some r := h;clear h;obtain ⟨t102,A20,H⟩ := bE H;have A2 := aS A20;clear A20;by_cases c3 : t102 = true
 ·
  subst c3;replace H := iT H;obtain ⟨t103,A40,H⟩ := bE H;have A4 := aS A40;clear A40;by_cases c5 : t103 = true
  ·
   subst c5;replace H := iT H;obtain ⟨t104,A60,H⟩ := bE H;have A6 := aS A60;clear A60;by_cases c7 : t104 = true
   ·
    subst c7;replace H := iT H;obtain ⟨t105,A80,H⟩ := bE H;have A8 := aS A80;clear A80;by_cases c9 : t105 = true
    ·
     subst c9;replace H := iT H;obtain ⟨t106,A100,H⟩ := bE H;have A10 := aS A100;clear A100;by_cases c11 : t106 = true
     ·
      subst c11;replace H := iT H;obtain ⟨t107,A120,H⟩ := bE H;have A12 := aS A120;clear A120;obtain rfl := Option.some.inj H;go_enter Tryz.func40,Tryz.ntmps40;go_wp2_with (first | ((with_reducible refine gate_dst (N := 1) rfl ?_);refine boxE (w := w) oL (cs := #[.slice A0_0 l0_0.length c0_0,.slice A0_1 l0_1.length c0_1,.int .i64 a0_2,.int .i64 a0_3,.int .i64 a0_4,.int .i64 a0_5,.bool a0_6,.bool a0_7]) (t := 37) ?_;clear HB;intro gb101 w13 HB BK101 GW101;have GE101 := GW101;refine zz8 BK101.out ?_;intros) | ((with_reducible refine gate_callee (f := 66) rfl ?_);refine goesL_ (some 5) rfl rfl Tryz.func66 (by kernel_rfl) rfl #[.slice A0_0 l0_0.length c0_0] rfl oA ?_;(with_reducible refine (impl_areWords.calls k _ _ l0_0 true _ ?side1 ?side2 A2.out).mono ?_);(case side1 => exact oC HR0_0.out);(case side2 => exact HC0_0.out);rintro e w' ⟨rfl,⟨nd,rfl⟩⟩;refine ⟨_,rfl,?_⟩) | (go_at_call 66;(with_reducible refine (impl_areWords.calls k _ _ l0_1 true _ ?side1 ?side2 A4.out).mono ?_);(case side1 => repeat (first | exact (Kd.C_below HR0_1.out oL) | (with_reducible refine Kd.C_alloc ?_ _) | (with_reducible refine Kd.C_drewN ?_ _) | (with_reducible refine Kd.C_drew ?_)));(case side2 => exact HC0_1.out);rintro e w' ⟨rfl,⟨nd,rfl⟩⟩) | (go_at_call 67;(with_reducible refine (impl_isWord.calls a0_2 true _ A6.out).mono ?_);rintro e w' ⟨rfl,⟨nd,rfl⟩⟩) | (go_at_call 67;(with_reducible refine (impl_isWord.calls a0_3 true _ A8.out).mono ?_);rintro e w' ⟨rfl,⟨nd,rfl⟩⟩) | (go_at_call 68;(with_reducible refine (impl_areFlags.calls a0_4 true _ A10.out).mono ?_);rintro e w' ⟨rfl,⟨nd,rfl⟩⟩) | (go_at_call 42;(with_reducible refine (impl_within.calls a0_5 0 7 t107 _ A12.out).mono ?_);rintro e w' ⟨rfl,⟨nd,rfl⟩⟩));go_ret;exact ⟨oE,oL⟩
     ·
      replace c11 := Bool.eq_false_iff.mpr c11;subst c11;replace H := iF H;obtain rfl := Option.some.inj H;go_enter Tryz.func40,Tryz.ntmps40;go_wp2_with (first | ((with_reducible refine gate_dst (N := 1) rfl ?_);refine boxE (w := w) oL (cs := #[.slice A0_0 l0_0.length c0_0,.slice A0_1 l0_1.length c0_1,.int .i64 a0_2,.int .i64 a0_3,.int .i64 a0_4,.int .i64 a0_5,.bool a0_6,.bool a0_7]) (t := 37) ?_;clear HB;intro gb101 w15 HB BK101 GW101;have GE101 := GW101;refine zz8 BK101.out ?_;intros) | ((with_reducible refine gate_callee (f := 66) rfl ?_);refine goesL_ (some 5) rfl rfl Tryz.func66 (by kernel_rfl) rfl #[.slice A0_0 l0_0.length c0_0] rfl oA ?_;(with_reducible refine (impl_areWords.calls k _ _ l0_0 true _ ?side1 ?side2 A2.out).mono ?_);(case side1 => exact oC HR0_0.out);(case side2 => exact HC0_0.out);rintro e w' ⟨rfl,⟨nd,rfl⟩⟩;refine ⟨_,rfl,?_⟩) | (go_at_call 66;(with_reducible refine (impl_areWords.calls k _ _ l0_1 true _ ?side1 ?side2 A4.out).mono ?_);(case side1 => repeat (first | exact (Kd.C_below HR0_1.out oL) | (with_reducible refine Kd.C_alloc ?_ _) | (with_reducible refine Kd.C_drewN ?_ _) | (with_reducible refine Kd.C_drew ?_)));(case side2 => exact HC0_1.out);rintro e w' ⟨rfl,⟨nd,rfl⟩⟩) | (go_at_call 67;(with_reducible refine (impl_isWord.calls a0_2 true _ A6.out).mono ?_);rintro e w' ⟨rfl,⟨nd,rfl⟩⟩) | (go_at_call 67;(with_reducible refine (impl_isWord.calls a0_3 true _ A8.out).mono ?_);rintro e w' ⟨rfl,⟨nd,rfl⟩⟩) | (go_at_call 68;(with_reducible refine (impl_areFlags.calls a0_4 false _ A10.out).mono ?_);rintro e w' ⟨rfl,⟨nd,rfl⟩⟩));go_ret;exact ⟨oE,oL⟩
    ·
     replace c9 := Bool.eq_false_iff.mpr c9;subst c9;replace H := iF H;obtain rfl := Option.some.inj H;go_enter Tryz.func40,Tryz.ntmps40;go_wp2_with (first | ((with_reducible refine gate_dst (N := 1) rfl ?_);refine boxE (w := w) oL (cs := #[.slice A0_0 l0_0.length c0_0,.slice A0_1 l0_1.length c0_1,.int .i64 a0_2,.int .i64 a0_3,.int .i64 a0_4,.int .i64 a0_5,.bool a0_6,.bool a0_7]) (t := 37) ?_;clear HB;intro gb101 w17 HB BK101 GW101;have GE101 := GW101;refine zz8 BK101.out ?_;intros) | ((with_reducible refine gate_callee (f := 66) rfl ?_);refine goesL_ (some 5) rfl rfl Tryz.func66 (by kernel_rfl) rfl #[.slice A0_0 l0_0.length c0_0] rfl oA ?_;(with_reducible refine (impl_areWords.calls k _ _ l0_0 true _ ?side1 ?side2 A2.out).mono ?_);(case side1 => exact oC HR0_0.out);(case side2 => exact HC0_0.out);rintro e w' ⟨rfl,⟨nd,rfl⟩⟩;refine ⟨_,rfl,?_⟩) | (go_at_call 66;(with_reducible refine (impl_areWords.calls k _ _ l0_1 true _ ?side1 ?side2 A4.out).mono ?_);(case side1 => repeat (first | exact (Kd.C_below HR0_1.out oL) | (with_reducible refine Kd.C_alloc ?_ _) | (with_reducible refine Kd.C_drewN ?_ _) | (with_reducible refine Kd.C_drew ?_)));(case side2 => exact HC0_1.out);rintro e w' ⟨rfl,⟨nd,rfl⟩⟩) | (go_at_call 67;(with_reducible refine (impl_isWord.calls a0_2 true _ A6.out).mono ?_);rintro e w' ⟨rfl,⟨nd,rfl⟩⟩) | (go_at_call 67;(with_reducible refine (impl_isWord.calls a0_3 false _ A8.out).mono ?_);rintro e w' ⟨rfl,⟨nd,rfl⟩⟩));go_ret;exact ⟨oE,oL⟩
   ·
    replace c7 := Bool.eq_false_iff.mpr c7;subst c7;replace H := iF H;obtain rfl := Option.some.inj H;go_enter Tryz.func40,Tryz.ntmps40;go_wp2_with (first | ((with_reducible refine gate_dst (N := 1) rfl ?_);refine boxE (w := w) oL (cs := #[.slice A0_0 l0_0.length c0_0,.slice A0_1 l0_1.length c0_1,.int .i64 a0_2,.int .i64 a0_3,.int .i64 a0_4,.int .i64 a0_5,.bool a0_6,.bool a0_7]) (t := 37) ?_;clear HB;intro gb101 w19 HB BK101 GW101;have GE101 := GW101;refine zz8 BK101.out ?_;intros) | ((with_reducible refine gate_callee (f := 66) rfl ?_);refine goesL_ (some 5) rfl rfl Tryz.func66 (by kernel_rfl) rfl #[.slice A0_0 l0_0.length c0_0] rfl oA ?_;(with_reducible refine (impl_areWords.calls k _ _ l0_0 true _ ?side1 ?side2 A2.out).mono ?_);(case side1 => exact oC HR0_0.out);(case side2 => exact HC0_0.out);rintro e w' ⟨rfl,⟨nd,rfl⟩⟩;refine ⟨_,rfl,?_⟩) | (go_at_call 66;(with_reducible refine (impl_areWords.calls k _ _ l0_1 true _ ?side1 ?side2 A4.out).mono ?_);(case side1 => repeat (first | exact (Kd.C_below HR0_1.out oL) | (with_reducible refine Kd.C_alloc ?_ _) | (with_reducible refine Kd.C_drewN ?_ _) | (with_reducible refine Kd.C_drew ?_)));(case side2 => exact HC0_1.out);rintro e w' ⟨rfl,⟨nd,rfl⟩⟩) | (go_at_call 67;(with_reducible refine (impl_isWord.calls a0_2 false _ A6.out).mono ?_);rintro e w' ⟨rfl,⟨nd,rfl⟩⟩));go_ret;exact ⟨oE,oL⟩
  ·
   replace c5 := Bool.eq_false_iff.mpr c5;subst c5;replace H := iF H;obtain rfl := Option.some.inj H;go_enter Tryz.func40,Tryz.ntmps40;go_wp2_with (first | ((with_reducible refine gate_dst (N := 1) rfl ?_);refine boxE (w := w) oL (cs := #[.slice A0_0 l0_0.length c0_0,.slice A0_1 l0_1.length c0_1,.int .i64 a0_2,.int .i64 a0_3,.int .i64 a0_4,.int .i64 a0_5,.bool a0_6,.bool a0_7]) (t := 37) ?_;clear HB;intro gb101 w21 HB BK101 GW101;have GE101 := GW101;refine zz8 BK101.out ?_;intros) | ((with_reducible refine gate_callee (f := 66) rfl ?_);refine goesL_ (some 5) rfl rfl Tryz.func66 (by kernel_rfl) rfl #[.slice A0_0 l0_0.length c0_0] rfl oA ?_;(with_reducible refine (impl_areWords.calls k _ _ l0_0 true _ ?side1 ?side2 A2.out).mono ?_);(case side1 => exact oC HR0_0.out);(case side2 => exact HC0_0.out);rintro e w' ⟨rfl,⟨nd,rfl⟩⟩;refine ⟨_,rfl,?_⟩) | (go_at_call 66;(with_reducible refine (impl_areWords.calls k _ _ l0_1 false _ ?side1 ?side2 A4.out).mono ?_);(case side1 => repeat (first | exact (Kd.C_below HR0_1.out oL) | (with_reducible refine Kd.C_alloc ?_ _) | (with_reducible refine Kd.C_drewN ?_ _) | (with_reducible refine Kd.C_drew ?_)));(case side2 => exact HC0_1.out);rintro e w' ⟨rfl,⟨nd,rfl⟩⟩));go_ret;exact ⟨oE,oL⟩
 ·
  replace c3 := Bool.eq_false_iff.mpr c3;subst c3;replace H := iF H;obtain rfl := Option.some.inj H;go_enter Tryz.func40,Tryz.ntmps40;go_wp2_with (first | ((with_reducible refine gate_dst (N := 1) rfl ?_);refine boxE (w := w) oL (cs := #[.slice A0_0 l0_0.length c0_0,.slice A0_1 l0_1.length c0_1,.int .i64 a0_2,.int .i64 a0_3,.int .i64 a0_4,.int .i64 a0_5,.bool a0_6,.bool a0_7]) (t := 37) ?_;clear HB;intro gb101 w23 HB BK101 GW101;have GE101 := GW101;refine zz8 BK101.out ?_;intros) | ((with_reducible refine gate_callee (f := 66) rfl ?_);refine goesL_ (some 5) rfl rfl Tryz.func66 (by kernel_rfl) rfl #[.slice A0_0 l0_0.length c0_0] rfl oA ?_;(with_reducible refine (impl_areWords.calls k _ _ l0_0 false _ ?side1 ?side2 A2.out).mono ?_);(case side1 => exact oC HR0_0.out);(case side2 => exact HC0_0.out);rintro e w' ⟨rfl,⟨nd,rfl⟩⟩;refine ⟨_,rfl,?_⟩));go_ret;exact ⟨oE,oL⟩

/-! ### impl_GoodBus_1: function 70 -/
def impl_GoodBus_1.f (a0 : Int) : Option (Bool) := (impl_within.f a0 0 255).bind fun t101 => (some (!t101))
set_option maxHeartbeats 8000000 in
set_option maxRecDepth 100000 in
theorem impl_GoodBus_1.calls (a0 : Int) (r : Bool) (w : World) (h : impl_GoodBus_1.f a0 = some r) :
  Calls Tryz.prog 70 #[.int .i64 a0] w fun e w' => e = .returned (.bool r) ∧ Drawn0 w w' := by
 have H : ((impl_within.f a0 0 255).bind fun t101 => (some (!t101))) = some r := h;clear h;obtain ⟨t101,A20,H⟩ := bE H;have A2 := aS A20;clear A20;obtain rfl := Option.some.inj H;go_enter Tryz.func70,Tryz.ntmps70;go_wp2_with (first | ((with_reducible refine gate_callee (f := 42) rfl ?_);refine goesQ (some 4) Tryz.func42 #[.int .i64 a0,.int .i64 0,.int .i64 255] (impl_within.calls a0 0 255 t101 _ A2.out) fun nd => ?_));go_ret;exact ⟨by first | rfl | (simp;done) | (simp [*];done),by repeat (first | exact Drawn0.refl _ | apply Drawn0.step)⟩

/-! ### impl_isSize: function 74 -/
def impl_isSize.f (a0 : Int) : Option (Bool) := if a0 = 1 then (some true) else (some (a0 == 2))
set_option maxHeartbeats 8000000 in
set_option maxRecDepth 100000 in
theorem impl_isSize.calls (a0 : Int) (r : Bool) (w : World) (h : impl_isSize.f a0 = some r) :
  Calls Tryz.prog 74 #[.int .i64 a0] w fun e w' => e = .returned (.bool r) ∧ Drawn0 w w' := by
 have H : (if a0 = 1 then (some true) else (some (a0 == 2))) = some r := h;clear h;by_cases c2 : a0 = 1;{rw [if_pos c2] at H;obtain ⟨c2b0,c2b1⟩ := eT c2;clear c2;obtain rfl := Option.some.inj H;go_enter Tryz.func74,Tryz.ntmps74;go_wp2;go_ret;exact ⟨by first | rfl | (simp;done) | (simp [*];done),by repeat (first | exact Drawn0.refl _ | apply Drawn0.step)⟩};{rw [if_neg c2] at H;obtain ⟨c2b0,c2b1⟩ := eF c2;obtain rfl := Option.some.inj H;go_enter Tryz.func74,Tryz.ntmps74;go_wp2;go_ret;exact ⟨by first | rfl | (simp;done) | (simp [*];done),by repeat (first | exact Drawn0.refl _ | apply Drawn0.step)⟩}

/-! ### impl_limitOf: function 105 -/
def impl_limitOf.f (a0 : Int) : Option (Int) := if 0 ≤ (wrap64 (8 * a0)) then (some (shl .i64 1 (wrap64 (8 * a0)))) else (none)
set_option maxHeartbeats 8000000 in
set_option maxRecDepth 100000 in
theorem impl_limitOf.calls (a0 : Int) (r : Int) (w : World) (h : impl_limitOf.f a0 = some r) :
  Calls Tryz.prog 105 #[.int .i64 a0] w fun e w' => e = .returned (.int .i64 r) ∧ Drawn0 w w' := by
 have H : (if 0 ≤ (wrap64 (8 * a0)) then (some (shl .i64 1 (wrap64 (8 * a0)))) else (none)) = some r := h;clear h;obtain ⟨ji2,hji2⟩ : ∃ j_ : Int,(wrap64 (8 * a0)) = j_ := ⟨_,rfl⟩;replace H : (if 0 ≤ (ji2) then (some (shl .i64 1 (ji2))) else (none)) = some r := by first | (rw [hji2] at H;exact H) | (simp only [hji2] at H ⊢;exact H)
 have hji2w : (IntKind.i64.wrap (8 * a0)) = ji2 := (i64_w _).trans hji2;by_cases c3 : 0 ≤ (ji2)
 ·
  rw [if_pos c3] at H;have c3b0 := eq_true c3;have c3b1 : decide (0 ≤ (ji2)) = true := decide_eq_true c3;clear c3;obtain ⟨ji4,hji4⟩ : ∃ j_ : Int,(shl .i64 1 (ji2)) = j_ := ⟨_,rfl⟩;replace H : (some ji4) = some r := by first | (rw [hji4] at H;exact H) | (simp only [hji4] at H ⊢;exact H)
  have hji4_ : (IntKind.i64.wrap (1 * 2 ^ min (ji2).toNat 64)) = ji4 := hji4;have hji4z : (ji2) ≤ 64 → (IntKind.i64.wrap (1 * 2 ^ (ji2).toNat)) = ji4 := shl_small hji4;have hji4u : (IntKind.i64.wrap (2 ^ min (ji2).toNat 64)) = ji4 := by have h_ := hji4_;rw [Int.one_mul] at h_;exact h_
  have hji4v : (ji2) ≤ 64 → (IntKind.i64.wrap (2 ^ (ji2).toNat)) = ji4 := fun hle_ => by have h_ := hji4z hle_;rw [Int.one_mul] at h_;exact h_
  have hji4y : (wrap64 (1 * 2 ^ min (ji2).toNat 64)) = ji4 := (i64_w _).symm.trans hji4_;have hji4x : (ji2) ≤ 64 → (wrap64 (1 * 2 ^ (ji2).toNat)) = ji4 := fun h_ => (i64_w _).symm.trans (hji4z h_)
  obtain rfl := Option.some.inj H;go_enter Tryz.func105,Tryz.ntmps105;go_wp2;go_ret;exact ⟨by first | rfl | (simp;done) | (simp only [← hji2,← hji4] <;> (first | rfl | simp)) | (simp [*];done),by repeat (first | exact Drawn0.refl _ | apply Drawn0.step)⟩
 · rw [if_neg c3] at H;exact absurd H (by simp)

end Go.Proofs.YtapfngfaiojmhaaGreat.R
