-- Made by this session's program gprint.py out of the translation. Not trusted: Lean checks it.
import Derived.Test.YtjnifnhpnccpcaaGreatJx0
import Derived.Test.YtjnifnhpnccpcaaGreatJx2
namespace Go.Proofs.YtjnifnhpnccpcaaGreat.J
open Go.RowKit Go.Proofs.YtjnifnhpnccpcaaGreatW.PrintWords Go.Proofs.YtjnifnhpnccpcaaGreatW.PrintLast Go.Proofs.YtjnifnhpnccpcaaGreatW.PrintMore
attribute [local go_sem] max2_int min2_int max_two min_two max_three min_three max_four min_four
set_option linter.unusedVariables false
set_option linter.unusedSimpArgs false
attribute [local go_sem high] eqA70
def impl_insOf.l0 : Nat → List (S68) → List (S70) → Int → Int → Option ((List (S68)))
 | 0,_,_,_,_ => none
 | k + 1,x3,x8,x9,x10 => if x10 < x9 then (if 0 ≤ x10 then (if x10 < (x8.length : Int) then (if x3.length < 2513169434916 then (impl_insOf.l0 k (x3 ++ [(⟨(rd_T70 x8 x10).f0.f0,(rd_T70 x8 x10).f0.f1,(rd_T70 x8 x10).f0.f2,(⟨(rd_T70 x8 x10).f0.f3.f0,(rd_T70 x8 x10).f0.f3.f1,(rd_T70 x8 x10).f0.f3.f2⟩ : S66),(rd_T70 x8 x10).f0.f4⟩ : S68)]) x8 x9 (wrap64 (x10 + 1))) else (none)) else (none)) else (none)) else (some x3)
def impl_insOf.f (k : Nat) (a0_0 : Int) (a0_1 : Int) (l0_2 : List (S70)) : Option ((List (S68))):=impl_insOf.l0 k (([] : List (S68))) l0_2 (l0_2.length : Int) 0
set_option maxHeartbeats 8000000 in
set_option maxRecDepth 100000 in
theorem impl_insOf.calls (k : Nat) (a0_0 : Int) (a0_1 : Int) (A0_2 : Option Addr) (c0_2 : Nat) (l0_2 : List (S70)) (r : List (S68)) (w : World) (hr0_2 : Kd.C k70 w A0_2 l0_2.length l0_2) (hc0_2 : l0_2.length ≤ c0_2) (h : impl_insOf.f k a0_0 a0_1 l0_2 = some r) :
  Calls Tryz.prog 50 #[.agg #[.int .i64 a0_0,.int .i64 a0_1,.slice A0_2 l0_2.length c0_2]] w fun e w' => ∃ v0_ : Value,e = .returned (v0_) ∧ Kd.R k68 68 w' w.heap.size (fun _ => True) v0_ r ∧ Below w.heap.size w w':=by
 have hu38:=Tryz.underlying38;have hu70:=Tryz.underlying70;have hu68:=Tryz.underlying68;have HR0_2:=aS hr0_2;have HC0_2:=aS hc0_2;clear hr0_2 hc0_2;have HB:=aS (Below.refl w.heap.size w);unfold impl_insOf.f at h;have H:=h;clear h;obtain ⟨y102,hy102⟩ : ∃ y_ : List (S68),y_ = (([] : List (S68))):=⟨_,rfl⟩;rw [← hy102] at H
 have Ny102:=aS hy102;clear hy102;have H':=aS H;clear H;go_enter Tryz.func50,Tryz.ntmps50;go_wp2_with (first | ((with_reducible refine gD 1 rfl ?_);refine bX (w:=w) #[.int .i64 a0_0,.int .i64 a0_1,.slice A0_2 l0_2.length c0_2] 38 ?_;clear HB;intro gb101 w2 HB BK101 GW101) | ((with_reducible refine gate_dst (N:=6) rfl ?_);refine Kd.R_lit k68 _ 68 ?hg (N:=6) ?hd (xs:=([] : List (S68))) (inner:=[]) (ok:=fun _ => True) (okp:=fun _ => True) ?hr ?hp (fun _ hk => hk) trivial (Below.refl _ _) (Nat.le_refl _) (by simp) ?_;(case hd => rfl);(case hg => rfl);(case hr => first | (go_simp;done) | (go_simp;rfl));(case hp => exact (Reps.none _ _));intro v103 w3 ho4 hb hg_ hnew_;clear hg_ hnew_;(first | rw [← Ny102.out] at ho4 | (simp only [Int.reduceToNat] at ho4;rw [← Ny102.out] at ho4));refine mk3 (Kd.R_lower ho4 (below_size oL)) (xB BK101 hb) (xL hb) ?_;clear BK101 HB;intro HO104 BK101 HB;clear hb ho4;refine zz3 BK101.out ?_;intros));go_loopg [3,10] k (fun kq v3 v10 w' => ∃ (x3_1 : List (S68)) (x10_1 : Int),v10 = .int .i64 x10_1 ∧ Aside0 (impl_insOf.l0 kq x3_1 l0_2 (l0_2.length : Int) x10_1 = some r) ∧ Aside0 (kq ≤ k) ∧ Aside0 (Kd.R k68 68 w' w.heap.size (fun _ => True) v3 x3_1) ∧ Aside0 (w'.heap[gb101]? = some (.cells #[.int .i64 a0_0,.int .i64 a0_1,(.slice A0_2 l0_2.length c0_2)] 38 (0,0))) ∧ Aside0 (Below w.heap.size w w'))
 case atStart => exact ⟨(y102),(0),oE,H',⟨Nat.le_refl _⟩,⟨by (with_reducible repeat (first | apply Kd.R_alloc | apply Kd.R_drewN | apply Kd.R_drew));exact HO104.out⟩,⟨oB BK101.out⟩,⟨oL⟩⟩
 case round =>
  clear H';obtain ⟨x3_1,x10_1,rfl,HA,HK1,HO_3,BK101,HB⟩:=hrel;cases gk with
  | zero => exact absurd HA.out (by simp [impl_insOf.l0])
  | succ k1 =>
   have H:=HA.out;clear HA;simp only [impl_insOf.l0] at H;by_cases c6 : x10_1 < (l0_2.length : Int)
   ·
    rw [if_pos c6] at H;have c6b0:=decide_eq_true c6;clear c6;by_cases c7 : 0 ≤ x10_1
    ·
     rw [if_pos c7] at H;have c7b0:=decide_eq_true c7;clear c7;by_cases c8 : x10_1 < (l0_2.length : Int)
     ·
      rw [if_pos c8] at H;have c8b0:=decide_eq_true c8;clear c8;by_cases c9 : x3_1.length < 2513169434916
      ·
       rw [if_pos c9] at H;have LMc9:=aS c9;clear c9;obtain ⟨y107,hy107⟩ : ∃ y_ : List (S68),y_ = (x3_1 ++ [(⟨(rd_T70 l0_2 x10_1).f0.f0,(rd_T70 l0_2 x10_1).f0.f1,(rd_T70 l0_2 x10_1).f0.f2,(⟨(rd_T70 l0_2 x10_1).f0.f3.f0,(rd_T70 l0_2 x10_1).f0.f3.f1,(rd_T70 l0_2 x10_1).f0.f3.f2⟩ : S66),(rd_T70 l0_2 x10_1).f0.f4⟩ : S68)]):=⟨_,rfl⟩;rw [← hy107] at H
       have Ny107:=aS hy107;clear hy107;have H':=aS H;clear H;have p105 : 0 ≤ (x10_1 : Int):=oZ;have q105 : x10_1 < (l0_2.length : Int):=oZ;obtain ⟨ad105,e105,hx105_0,hx105_1,hx105_2,hx105_3,hx105_4,hx105_5,hx105_6,hx105_7,hx105_8⟩:=at_T70 HR0_2.out x10_1 p105 q105;cases e105
       replace hx105_0:=oJ HB hx105_0;replace hx105_1:=oJ HB hx105_1;replace hx105_2:=oJ HB hx105_2;replace hx105_3:=oJ HB hx105_3;replace hx105_4:=oJ HB hx105_4;replace hx105_5:=oJ HB hx105_5;replace hx105_6:=oJ HB hx105_6;replace hx105_7:=oJ HB hx105_7;replace hx105_8:=oJ HB hx105_8;replace p105:=eq_true p105;replace q105:=eq_true q105;go_wp2_with (first | ((with_reducible refine gD 5 rfl ?_);refine bY #[.int .i64 0,.int .i64 0,.int .i64 0,.int .i64 0,.int .i64 0,.int .i64 0,.int .i64 0,.int .i64 0,.bool false] 70 ?_;intro gb106 hg w10 hbox hb;refine mk7 (xR HO_3 hb) (xB BK101 hb) (xL hb) (hbox) (xG hg HB) (xN hg BK101) (xM hg BK101) ?_;clear HO_3 BK101 HB;intro HO_3 BK101 HB BK106 GW106 NB101_106 NB106_101;clear hb hbox hg;have hnb11:=NB106_101.out;have hnc11:=NB101_106.out;refine zz9 BK106.out ?_;intros) | ((with_reducible refine gate_builtin (b:=.append) (xs:=#[.tmp 14,.tmp 17]) rfl ?_);at_builtin;refine Kd.R_append k68 (w0:=w) w.heap.size rfl (.tmp 14) (.tmp 17) 62 68 (.agg #[(.int .i64 0),(.int .i64 0),(.int .i64 0),(.int .i64 0),(.int .i64 0),(.int .i64 0),(.int .i64 0)]) 56 rfl Tryz.underlying62 info68 rfl (by decide) (by omega) u3 x3_1 (⟨(rd_T70 l0_2 x10_1).f0.f0,(rd_T70 l0_2 x10_1).f0.f1,(rd_T70 l0_2 x10_1).f0.f2,(⟨(rd_T70 l0_2 x10_1).f0.f3.f0,(rd_T70 l0_2 x10_1).f0.f3.f1,(rd_T70 l0_2 x10_1).f0.f3.f2⟩ : S66),(rd_T70 l0_2 x10_1).f0.f4⟩ : S68) [.int .i64 ((rd_T70 l0_2 x10_1).f0.f0),.int .i64 ((rd_T70 l0_2 x10_1).f0.f1),.int .i64 ((rd_T70 l0_2 x10_1).f0.f2),.int .i64 ((rd_T70 l0_2 x10_1).f0.f3.f0),.int .i64 ((rd_T70 l0_2 x10_1).f0.f3.f1),.int .i64 ((rd_T70 l0_2 x10_1).f0.f3.f2),.int .i64 ((rd_T70 l0_2 x10_1).f0.f4)] (fun _ => True) (fun _ => False) rfl (by first | (go_simp;done) | (go_simp;rfl)) ?aP (fun _ hk => hk.elim) ?aF ?aO ?aB ?aS ?aL ?_;(case aP => exact k68_mkM _ _ _ (⟨(rd_T70 l0_2 x10_1).f0.f0,(rd_T70 l0_2 x10_1).f0.f1,(rd_T70 l0_2 x10_1).f0.f2,(⟨(rd_T70 l0_2 x10_1).f0.f3.f0,(rd_T70 l0_2 x10_1).f0.f3.f1,(rd_T70 l0_2 x10_1).f0.f3.f2⟩ : S66),(rd_T70 l0_2 x10_1).f0.f4⟩ : S68));(case aB => exact oL);(case aF => exact (fun _ _ => trivial));(case aO => exact (by (with_reducible repeat (first | apply Kd.R_alloc | apply Kd.R_drewN | apply Kd.R_drew));exact Kd.R_mono (oFr HO_3.out BK106.out) (fun _ hk => trivial)));(case aS => exact (below_size oL));(case aL => have:=LMc9.out;omega);intro v108 w13 ho hb hg hat;rw [← Ny107.out] at ho;refine mk4 (blk_grown (g:=gb101) (o:=.cells #[.int .i64 a0_0,.int .i64 a0_1,.slice (some ad105) l0_2.length c0_2] 38 (0,0)) (oG BK101.out NB101_106.out) hg (Kd.R_ne HO_3.out BK101.out (by decide))) (blk_grown (g:=gb106) (o:=.cells #[.int .i64 ((rd_T70 l0_2 x10_1).f0.f0),.int .i64 ((rd_T70 l0_2 x10_1).f0.f1),.int .i64 ((rd_T70 l0_2 x10_1).f0.f2),.int .i64 ((rd_T70 l0_2 x10_1).f0.f3.f0),.int .i64 ((rd_T70 l0_2 x10_1).f0.f3.f1),.int .i64 ((rd_T70 l0_2 x10_1).f0.f3.f2),.int .i64 ((rd_T70 l0_2 x10_1).f0.f4),.int .i64 ((rd_T70 l0_2 x10_1).f1),.bool ((rd_T70 l0_2 x10_1).f2)] 70 (0,0)) (oP BK106.out) hg (Kd.R_ne HO_3.out BK106.out (by decide))) (hb) (ho) ?_;clear BK101 BK106 HB HO_3;intro BK101 BK106 HB HO109;clear ho hb hg hat));go_roundg k1;case measure => have:=HK1.out;omega
       case rel => exact ⟨(y107),(wrap64 (x10_1 + 1)),oE,H',⟨by have:=HK1.out;omega⟩,⟨by (with_reducible repeat (first | apply Kd.R_alloc | apply Kd.R_drewN | apply Kd.R_drew));exact HO109.out⟩,⟨oB BK101.out⟩,⟨oL⟩⟩
      · rw [if_neg c9] at H;exact absurd H (by simp)
     · rw [if_neg c8] at H;exact absurd H (by simp)
    · rw [if_neg c7] at H;exact absurd H (by simp)
   · rw [if_neg c6] at H;have c6b0:=decide_eq_false c6;clear c6;obtain rfl:=Option.some.inj H;go_wp2;go_ret;exact ⟨_,oE,by (with_reducible repeat (first | apply Kd.R_alloc | apply Kd.R_drewN | apply Kd.R_drew));exact HO_3.out,oL⟩
def impl_Micro_51.l0 : Nat → List (S70) → List (S70) → Int → Int → Option (Bool)
 | 0,_,_,_,_ => none
 | k + 1,x0,x1,x12,x13 => if x13 < x12 then (if 0 ≤ x13 then (if x13 < (x0.length : Int) then (if x13 < (x1.length : Int) then (if ((!(((rd_T70 x0 x13).f0.f0) == ((rd_T70 x1 x13).f0.f0)) || (!(((rd_T70 x0 x13).f0.f1) == ((rd_T70 x1 x13).f0.f1)) || (!(((rd_T70 x0 x13).f0.f2) == ((rd_T70 x1 x13).f0.f2)) || ((!(((rd_T70 x0 x13).f0.f3.f0) == ((rd_T70 x1 x13).f0.f3.f0)) || (!(((rd_T70 x0 x13).f0.f3.f1) == ((rd_T70 x1 x13).f0.f3.f1)) || (!(((rd_T70 x0 x13).f0.f3.f2) == ((rd_T70 x1 x13).f0.f3.f2))))) || (!(((rd_T70 x0 x13).f0.f4) == ((rd_T70 x1 x13).f0.f4))))))) || (!(((rd_T70 x0 x13).f1) == ((rd_T70 x1 x13).f1)) || (!(((rd_T70 x0 x13).f2) == ((rd_T70 x1 x13).f2))))) = true then (some false) else (impl_Micro_51.l0 k x0 x1 x12 (wrap64 (x13 + 1)))) else (none)) else (none)) else (none)) else (some true)
def impl_Micro_51.f (k : Nat) (l0 : List (S70)) (l1 : List (S70)) : Option (Bool):=if (l0.length : Int) = (l1.length : Int) then (impl_Micro_51.l0 k l0 l1 (l0.length : Int) 0) else (some false)
set_option maxHeartbeats 8000000 in
set_option maxRecDepth 100000 in
theorem impl_Micro_51.calls (k : Nat) (A0 : Option Addr) (c0 : Nat) (l0 : List (S70)) (A1 : Option Addr) (c1 : Nat) (l1 : List (S70)) (r : Bool) (w : World) (hr0 : Kd.C k70 w A0 l0.length l0) (hc0 : l0.length ≤ c0) (hr1 : Kd.C k70 w A1 l1.length l1) (hc1 : l1.length ≤ c1) (h : impl_Micro_51.f k l0 l1 = some r) :
  Calls Tryz.prog 51 #[.slice A0 l0.length c0,.slice A1 l1.length c1] w fun e w' => e = .returned (.bool r) ∧ Drawn0 w w':=by
 have hu70:=Tryz.underlying70;have HR0:=aS hr0;have HC0:=aS hc0;clear hr0 hc0;have HR1:=aS hr1;have HC1:=aS hc1;clear hr1 hc1;unfold impl_Micro_51.f at h;have H:=h;clear h;by_cases c3 : (l0.length : Int) = (l1.length : Int)
 ·
  rw [if_pos c3] at H;obtain ⟨c3b0,c3b1⟩:=eT c3;have c3b2 : (l0.length == l1.length) = true:=by first | simpa using c3 | (simp at c3 ⊢;omega)
  clear c3;have H':=aS H;clear H;go_enter Tryz.func51,Tryz.ntmps51;go_wp2;repeat (go_quiet (fail);try go_wp2)
  go_loopg [13] k (fun kq v13 w' => ∃ (x13_1 : Int),v13 = .int .i64 x13_1 ∧ Aside0 (impl_Micro_51.l0 kq l0 l1 (l0.length : Int) x13_1 = some r) ∧ Aside0 (kq ≤ k) ∧ Drawn0 w w')
  case atStart => exact ⟨(0),oE,H',⟨Nat.le_refl _⟩,by repeat (first | exact Drawn0.refl _ | apply Drawn0.step)⟩
  case round =>
   clear H';obtain ⟨x13_1,rfl,HA,HK1,⟨m1,rfl⟩⟩:=hrel;cases gk with
   | zero => exact absurd HA.out (by simp [impl_Micro_51.l0])
   | succ k1 =>
    have H:=HA.out;clear HA;simp only [impl_Micro_51.l0] at H;by_cases c4 : x13_1 < (l0.length : Int)
    ·
     rw [if_pos c4] at H;have c4b0:=decide_eq_true c4;clear c4;by_cases c5 : 0 ≤ x13_1
     ·
      rw [if_pos c5] at H;have c5b0:=decide_eq_true c5;clear c5;by_cases c6 : x13_1 < (l0.length : Int)
      ·
       rw [if_pos c6] at H;have c6b0:=decide_eq_true c6;clear c6;by_cases c7 : x13_1 < (l1.length : Int)
       ·
        rw [if_pos c7] at H;have c7b0:=decide_eq_true c7;clear c7;by_cases c8 : ((!(((rd_T70 l0 x13_1).f0.f0) == ((rd_T70 l1 x13_1).f0.f0)) || (!(((rd_T70 l0 x13_1).f0.f1) == ((rd_T70 l1 x13_1).f0.f1)) || (!(((rd_T70 l0 x13_1).f0.f2) == ((rd_T70 l1 x13_1).f0.f2)) || ((!(((rd_T70 l0 x13_1).f0.f3.f0) == ((rd_T70 l1 x13_1).f0.f3.f0)) || (!(((rd_T70 l0 x13_1).f0.f3.f1) == ((rd_T70 l1 x13_1).f0.f3.f1)) || (!(((rd_T70 l0 x13_1).f0.f3.f2) == ((rd_T70 l1 x13_1).f0.f3.f2))))) || (!(((rd_T70 l0 x13_1).f0.f4) == ((rd_T70 l1 x13_1).f0.f4))))))) || (!(((rd_T70 l0 x13_1).f1) == ((rd_T70 l1 x13_1).f1)) || (!(((rd_T70 l0 x13_1).f2) == ((rd_T70 l1 x13_1).f2))))) = true
        ·
         rw [if_pos c8] at H;have c8b0 : ((!(((rd_T70 l0 x13_1).f0.f0) == ((rd_T70 l1 x13_1).f0.f0)) || (!(((rd_T70 l0 x13_1).f0.f1) == ((rd_T70 l1 x13_1).f0.f1)) || (!(((rd_T70 l0 x13_1).f0.f2) == ((rd_T70 l1 x13_1).f0.f2)) || ((!(((rd_T70 l0 x13_1).f0.f3.f0) == ((rd_T70 l1 x13_1).f0.f3.f0)) || (!(((rd_T70 l0 x13_1).f0.f3.f1) == ((rd_T70 l1 x13_1).f0.f3.f1)) || (!(((rd_T70 l0 x13_1).f0.f3.f2) == ((rd_T70 l1 x13_1).f0.f3.f2))))) || (!(((rd_T70 l0 x13_1).f0.f4) == ((rd_T70 l1 x13_1).f0.f4))))))) || (!(((rd_T70 l0 x13_1).f1) == ((rd_T70 l1 x13_1).f1)) || (!(((rd_T70 l0 x13_1).f2) == ((rd_T70 l1 x13_1).f2))))) = true:=c8;clear c8;obtain rfl:=Option.some.inj H;have p101 : 0 ≤ (x13_1 : Int):=oZ;have q101 : x13_1 < (l0.length : Int):=oZ;obtain ⟨ad101,e101,hx101_0,hx101_1,hx101_2,hx101_3,hx101_4,hx101_5,hx101_6,hx101_7,hx101_8⟩:=at_T70 HR0.out x13_1 p101 q101;cases e101
         replace p101:=eq_true p101;replace q101:=eq_true q101;have p102 : 0 ≤ (x13_1 : Int):=oZ;have q102 : x13_1 < (l1.length : Int):=oZ;obtain ⟨ad102,e102,hx102_0,hx102_1,hx102_2,hx102_3,hx102_4,hx102_5,hx102_6,hx102_7,hx102_8⟩:=at_T70 HR1.out x13_1 p102 q102;cases e102
         replace p102:=eq_true p102;replace q102:=eq_true q102;go_wp2;repeat (go_quiet (fail);try go_wp2)
         go_ret;exact ⟨by first | rfl | (simp;done) | (simp [*];done),by repeat (first | exact Drawn0.refl _ | apply Drawn0.step)⟩
        ·
         rw [if_neg c8] at H;have c8b0 : ((!(((rd_T70 l0 x13_1).f0.f0) == ((rd_T70 l1 x13_1).f0.f0)) || (!(((rd_T70 l0 x13_1).f0.f1) == ((rd_T70 l1 x13_1).f0.f1)) || (!(((rd_T70 l0 x13_1).f0.f2) == ((rd_T70 l1 x13_1).f0.f2)) || ((!(((rd_T70 l0 x13_1).f0.f3.f0) == ((rd_T70 l1 x13_1).f0.f3.f0)) || (!(((rd_T70 l0 x13_1).f0.f3.f1) == ((rd_T70 l1 x13_1).f0.f3.f1)) || (!(((rd_T70 l0 x13_1).f0.f3.f2) == ((rd_T70 l1 x13_1).f0.f3.f2))))) || (!(((rd_T70 l0 x13_1).f0.f4) == ((rd_T70 l1 x13_1).f0.f4))))))) || (!(((rd_T70 l0 x13_1).f1) == ((rd_T70 l1 x13_1).f1)) || (!(((rd_T70 l0 x13_1).f2) == ((rd_T70 l1 x13_1).f2))))) = false:=by simpa using c8
         clear c8;have H':=aS H;clear H;have p101 : 0 ≤ (x13_1 : Int):=oZ;have q101 : x13_1 < (l0.length : Int):=oZ;obtain ⟨ad101,e101,hx101_0,hx101_1,hx101_2,hx101_3,hx101_4,hx101_5,hx101_6,hx101_7,hx101_8⟩:=at_T70 HR0.out x13_1 p101 q101;cases e101
         replace p101:=eq_true p101;replace q101:=eq_true q101;have p102 : 0 ≤ (x13_1 : Int):=oZ;have q102 : x13_1 < (l1.length : Int):=oZ;obtain ⟨ad102,e102,hx102_0,hx102_1,hx102_2,hx102_3,hx102_4,hx102_5,hx102_6,hx102_7,hx102_8⟩:=at_T70 HR1.out x13_1 p102 q102;cases e102
         replace p102:=eq_true p102;replace q102:=eq_true q102;go_wp2;repeat (go_quiet (fail);try go_wp2)
         go_roundg k1;case measure => have:=HK1.out;omega
         case rel => exact ⟨(wrap64 (x13_1 + 1)),oE,H',⟨by have:=HK1.out;omega⟩,by repeat (first | exact Drawn0.refl _ | apply Drawn0.step)⟩
       · rw [if_neg c7] at H;exact absurd H (by simp)
      · rw [if_neg c6] at H;exact absurd H (by simp)
     · rw [if_neg c5] at H;exact absurd H (by simp)
    ·
     rw [if_neg c4] at H;have c4b0:=decide_eq_false c4;clear c4;obtain rfl:=Option.some.inj H;go_wp2;repeat (go_quiet (fail);try go_wp2)
     go_ret;exact ⟨by first | rfl | (simp;done) | (simp [*];done),by repeat (first | exact Drawn0.refl _ | apply Drawn0.step)⟩
 ·
  rw [if_neg c3] at H;obtain ⟨c3b0,c3b1⟩:=eF c3;have c3b2 : (l0.length == l1.length) = false:=by first | simpa using c3 | (simp at c3 ⊢;omega)
  obtain rfl:=Option.some.inj H;go_enter Tryz.func51,Tryz.ntmps51;go_wp2;repeat (go_quiet (fail);try go_wp2)
  go_ret;exact ⟨by first | rfl | (simp;done) | (simp [*];done),by repeat (first | exact Drawn0.refl _ | apply Drawn0.step)⟩
end Go.Proofs.YtjnifnhpnccpcaaGreat.J
