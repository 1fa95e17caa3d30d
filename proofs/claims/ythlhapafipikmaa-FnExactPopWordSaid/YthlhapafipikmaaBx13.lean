-- Made by this session's program gprint.py out of the translation. Not trusted: Lean checks it.
import Derived.Test.YthlhapafipikmaaBx0
import Derived.Test.YthlhapafipikmaaBx11
import Derived.Test.YthlhapafipikmaaBx12
namespace Go.Proofs.Ythlhapafipikmaa.B
open Go.RowKit Go.Proofs.YthlhapafipikmaaW.PrintWords Go.Proofs.YthlhapafipikmaaW.PrintLast Go.Proofs.YthlhapafipikmaaW.PrintMore
attribute [local go_sem] max2_int min2_int max_two min_two max_three min_three max_four min_four   -- for this text's walks alone
set_option linter.unusedVariables false
set_option linter.unusedSimpArgs false

/-! ### impl_Access_103: function 103 -/
def impl_Access_103.f (l0 : List (S115)) : Option ((List (S115))) := (some (([] : List (S115)) : List (S115))).bind fun y101 => (if y101.length + l0.length < 3518437208883 then (some (y101 ++ l0)) else (none))
set_option maxHeartbeats 8000000 in
set_option maxRecDepth 100000 in
theorem impl_Access_103.calls (A0 : Option Addr) (c0 : Nat) (l0 : List (S115)) (r : List (S115)) (w : World) (hr0 : Kd.C k115 w A0 l0.length l0) (hc0 : l0.length ≤ c0) (h : impl_Access_103.f l0 = some r) :
  Calls Try.prog 103 #[.slice A0 l0.length c0] w fun e w' => ∃ v0_ : Value,e = .returned (v0_) ∧ Kd.R k115 115 w' w.heap.size (fun _ => True) v0_ r ∧ Below w.heap.size w w' := by
 have HR0 := aS hr0;have HC0 := aS hc0;clear hr0 hc0;have HB := aS (Below.refl w.heap.size w);unfold impl_Access_103.f at h;have H := h;clear h;obtain ⟨y101,hy101,H⟩ := bS H
 have Ny101 := aS hy101;clear hy101;by_cases c2 : y101.length + l0.length < 3518437208883
 ·
  rw [if_pos c2] at H;have LMc2 := aS c2;clear c2;obtain ⟨y104,hy104⟩ : ∃ y_ : List (S115),y_ = (y101 ++ l0) := ⟨_,rfl⟩;rw [← hy104] at H
  have Ny104 := aS hy104;clear hy104;obtain rfl := Option.some.inj H;cases A0 with
  | none =>
   have hl0 : l0 = [] := List.eq_nil_of_length_eq_zero (Nat.eq_zero_of_not_pos fun hp => by obtain ⟨ad,e,_⟩ := HR0.out.2.2 hp;cases e);have hz : y104 = [] := by rw [Ny104.out,Ny101.out,hl0];rfl
   have HZ := aS hz;clear hz hl0;have heq := fun W => Lib.run_eql_slice_nil (P := Try.prog) W 32 115 none l0.length c0 0 0 Try.underlying32
   go_enter Try.func103,Try.ntmps103;go_wp2;go_ret;exact ⟨_,rfl,by rw [HZ.out];exact Kd.R_nil _ _ _ _ _,Below.refl _ _⟩
  | some ad =>
   have heq := fun W => Lib.run_eql_slice_nil (P := Try.prog) W 32 115 (some ad) l0.length c0 0 0 Try.underlying32
   go_enter Try.func103,Try.ntmps103;go_wp2_with (first | ((with_reducible refine gate_dst (N := 5) rfl ?_);refine Kd.R_lit k115 _ 115 ?hg (N := 5) ?hd (xs := ([] : List (S115))) (inner := []) (ok := fun _ => True) (okp := fun _ => True) ?hr ?hp (fun _ hk => hk) trivial (Below.refl _ _) (Nat.le_refl _) (by simp) ?_;(case hd => rfl);(case hg => rfl);(case hr => first | (go_simp;done) | (go_simp;rfl));(case hp => exact (Reps.none _ _));intro v102 w3 ho4 hb hg_ hnew_;clear hg_ hnew_;(first | rw [← Ny101.out] at ho4 | (simp only [Int.reduceToNat] at ho4;rw [← Ny101.out] at ho4));refine mk2 (Kd.R_lower ho4 (below_size oL)) (xL hb) ?_;clear HB;intro HO103 HB;clear hb ho4) | ((with_reducible refine gate_builtin (b := .append) (xs := #[.tmp 5,.tmp 6]) rfl ?_);at_builtin;refine Kd.R_append_rows k115 (w0 := w) w.heap.size rfl (.tmp 5) (.tmp 6) 32 115 (.agg #[(.int .i64 0),(.int .i64 0),(.int .i64 0),(.int .i64 0),(.int .i64 0)]) 40 rfl Try.underlying32 info115 rfl (by decide) (by omega) v102 y101 l0 _ _ _ (fun _ => True) (fun _ => False) rfl rfl ?aO ?aR (fun _ _ h => h) (fun _ h => h.elim) ?aF ?aB ?aS ?aL ?_;(case aR => repeat (first | exact (Kd.C_below HR0.out HB.out) | (with_reducible refine Kd.C_alloc ?_ _) | (with_reducible refine Kd.C_drewN ?_ _) | (with_reducible refine Kd.C_drew ?_)));(case aB => exact oL);(case aF => exact (fun _ _ => trivial));(case aO => exact (oR HO103.out));(case aS => exact (below_size oL));(case aL => have := LMc2.out;omega);intro v105 w5 ho hb hg hat;rw [← Ny104.out] at ho;refine mk2 (hb) (ho) ?_;clear HB HO103;intro HB HO106;clear ho hb hg hat));go_ret;exact ⟨_,oE,by (with_reducible repeat (first | apply Kd.R_alloc | apply Kd.R_drewN | apply Kd.R_drew));exact HO106.out,oL⟩
 · rw [if_neg c2] at H;exact absurd H (by simp)

/-! ### impl_ownBus: function 63 -/
def impl_ownBus.f (l0_0 : List Int) (l0_1 : List (S115)) : Option (List Int × (List (S115))) := (slices_Clone_int_int.f l0_0).bind fun t103 => ((impl_Access_103.f l0_1).bind fun t106 => (some (t103,t106)))
def impl_ownBus.T1 : Bool × List (List Nat × List Nat) := (true,[([],[]),([0],[0]),([1],[1]),([],[]),([3],[3]),([4,2],[4]),([2,5],[2,5]),([6,5,0,1,2,3,4,5,6],[6])])
def impl_ownBus.B1 : List Nat := [0,1,3,0,8,31,63,127]
theorem impl_ownBus.tab1 : rtab .any (opsOf Try.f63 1) = impl_ownBus.T1 := by kernel_rfl
theorem impl_ownBus.bits1 : waitsOk impl_ownBus.T1.2 impl_ownBus.B1 = true := by kernel_rfl
set_option maxHeartbeats 8000000 in
set_option maxRecDepth 100000 in
theorem impl_ownBus.calls (A0_0 : Option Addr) (c0_0 : Nat) (l0_0 : List Int) (A0_1 : Option Addr) (c0_1 : Nat) (l0_1 : List (S115)) (r1 : List Int) (r2 : List (S115)) (w : World) (hr0_0 : Kd.C (Kd.int .i64) w A0_0 l0_0.length l0_0) (hc0_0 : l0_0.length ≤ c0_0) (hr0_1 : Kd.C k115 w A0_1 l0_1.length l0_1) (hc0_1 : l0_1.length ≤ c0_1) (h : impl_ownBus.f l0_0 l0_1 = some (r1,r2)) :
  Calls Try.prog 63 #[.agg #[.slice A0_0 l0_0.length c0_0,.slice A0_1 l0_1.length c0_1]] w fun e w' => ∃ v0_ v1_ : Value,e = .returned (.agg #[v0_,v1_]) ∧ Kd.R (Kd.int .i64) 3 w' w.heap.size (fun _ => True) v0_ r1 ∧ Kd.R k115 115 w' w.heap.size (fun _ => True) v1_ r2 ∧ Below w.heap.size w w' := by
 have hu34 := Try.underlying34;have HR0_0 := aS hr0_0;have HC0_0 := aS hc0_0;clear hr0_0 hc0_0;have HR0_1 := aS hr0_1;have HC0_1 := aS hc0_1;clear hr0_1 hc0_1;have HB := aS (Below.refl w.heap.size w);unfold impl_ownBus.f at h;have H := h;clear h;obtain ⟨t103,A2,H⟩ := bA_ H;obtain ⟨t106,A3,H⟩ := bA_ H;simp only [Option.some.injEq,Prod.mk.injEq] at H;obtain ⟨rfl,rfl⟩ := H;go_enter Try.func63,Try.ntmps63;try go_wp2_with (first | ((with_reducible refine gD 1 rfl ?_);refine bX (w:=w) #[.slice A0_0 l0_0.length c0_0,.slice A0_1 l0_1.length c0_1] 34 ?_;clear HB;intro gb101 w4 HB BK101 GW101) | ((with_reducible refine gD 2 rfl ?_);refine bY #[.slice none 0 0,.slice none 0 0] 34 ?_;intro gb102 hg w5 hbox hb;refine mk6 (xB BK101 hb) (xL hb) (hbox) (xG hg HB) (xN hg BK101) (xM hg BK101) ?_;clear BK101 HB;intro BK101 HB BK102 GW102 NB101_102 NB102_101;clear hb hbox hg))
 refine mk3 (blk_drew BK101.out) (blk_drew BK102.out) (below_drew1 HB.out) ?_;clear BK101 BK102 HB;intro BK101 BK102 HB;refine start_ (n := 8) (S := fun w' => w'.cell? ⟨gb101,0,none⟩ = some (.slice A0_0 l0_0.length c0_0) ∧ w'.cell? ⟨gb101,1,none⟩ = some (.slice A0_1 l0_1.length c0_1)) (ds := []) (bA 8 0) (by kernel_rfl) rfl rfl ⟨xc BK101,xc BK101⟩ (fun hHeld => ?_);refine with_tabW impl_ownBus.tab1 impl_ownBus.bits1 (fun HT_ HW_ => ?_);generalize w5.drew = w6 at BK101 BK102 HB hHeld ⊢;refine pB 0 3 1 ?_;refine pB 3 6 9 ?_;refine tB 1 4 11 ?_;refine tB 4 7 27 ?_;refine oneB 2 5 31 fun K hK => ?_;refine goesS Try.func102 #[.slice A0_0 l0_0.length c0_0] ?_;(with_reducible refine (slices_Clone_int_int.calls _ _ l0_0 t103 _ ?side1 ?side2 A2.out).mono ?_);(case side1 => exact oC HR0_0.out);(case side2 => exact HC0_0.out);rintro e w7 ⟨v104,rfl,ho0,hb⟩;refine ⟨_,rfl,?_⟩;refine mk4 (Kd.R_lower ho0 (below_size oL)) (xB BK101 hb) (xB BK102 hb) (xL hb) ?_;clear BK101 BK102 HB;intro HO105 BK101 BK102 HB;refine hK.out _ _ (cz2 BK101.out) (fun hHeld => ?_);clear hK K;refine norm_ (a' := ?_) ?_ ?_;rotate_left;{show Act.put _ (some 5) _ = _;go_frame;(try simp only [i64_w,i32_w]);rfl};refine oneB 5 8 63 fun K hK => ?_;refine goesS Try.func103 #[.slice A0_1 l0_1.length c0_1] ?_;(with_reducible refine (impl_Access_103.calls _ _ l0_1 t106 _ ?side1 ?side2 A3.out).mono ?_);(case side1 => exact oC HR0_1.out);(case side2 => exact HC0_1.out);rintro e w8 ⟨v107,rfl,ho0,hb⟩;refine ⟨_,rfl,?_⟩;refine mk5 (xR HO105 hb) (Kd.R_lower ho0 (below_size oL)) (xB BK101 hb) (xB BK102 hb) (xL hb) ?_;clear HO105 BK101 BK102 HB;intro HO105 HO108 BK101 BK102 HB;obtain ⟨Ao9,co9,eo9⟩ := Kd.R_slice HO108.out;(first | subst eo9 | (injection eo9 with f1_ f2_ f3_;have f4_ := f1_.symm;have f5_ := f3_.symm;clear f1_ f2_ f3_;subst f4_;subst f5_));obtain ⟨Ao10,co10,eo10⟩ := Kd.R_slice HO105.out;(first | subst eo10 | (injection eo10 with f1_ f2_ f3_;have f4_ := f1_.symm;have f5_ := f3_.symm;clear f1_ f2_ f3_;subst f4_;subst f5_));refine hK.out _ _ (cz2 BK101.out) (fun hHeld => ?_);clear hK K;refine norm_ (a' := ?_) ?_ ?_;rotate_left;{show Act.put _ (some 8) _ = _;go_frame;(try simp only [i64_w,i32_w]);rfl};refine pB 6 9 127 ?_;refine one_ (i := 7) (N := none) (bA 8 255) rfl rfl (one_of HT_.out (by kernel_rfl)) (by decide) (fun K hK => ?_);obtain ⟨hs11,hs12⟩ := cz2 BK102.out;obtain ⟨hfs11,hfs12⟩ := fz2 BK102.out;have hns11_0 := NB101_102.out;have hms11_0 := NB102_101.out;refine skip_ (w1 := ?_) (by rfl) rfl ?_ ?_;rotate_left;{go_simp;rfl};refine hK.out _ _ ⟨(oK hHeld.1 NB101_102.out),(oK hHeld.2 NB101_102.out)⟩ (fun hHeld => ?_);clear hK K;refine done_ (done_of HT_.out (by kernel_rfl)) ?_;try go_wp2
 refine bodyPost_ret (results_cell_row rfl _ _ gb102 34 #[.slice Ao10 t103.length co10,.slice Ao9 t106.length co9] (0,0) _ rfl (oP BK102.out) Try.underlying34 rfl (by kernel_rfl)) rfl ?_;exact ⟨_,_,oE,by (with_reducible repeat (first | apply Kd.R_alloc | apply Kd.R_drewN | apply Kd.R_drew));exact Kd.R_mono (oFr HO105.out BK102.out) (fun _ hk => trivial),by (with_reducible repeat (first | apply Kd.R_alloc | apply Kd.R_drewN | apply Kd.R_drew));exact Kd.R_mono (oFr HO108.out BK102.out) (fun _ hk => trivial),oL⟩

/-! ### impl_ownCpu: function 33 -/
def impl_ownCpu.f (l0_0 : List Int) (l0_1 : List Int) (a0_2 : Int) (a0_3 : Int) (a0_4 : Int) (a0_5 : Int) (a0_6 : Bool) (a0_7 : Bool) (l0_8 : List Int) (l0_9 : List (S115)) (a0_10 : Bool) (a0_11 : Bool) : Option (List Int × List Int × Int × Int × Int × Int × Bool × Bool × List Int × (List (S115)) × Bool × Bool) := (impl_ownRegs.f l0_0 l0_1 a0_2 a0_3 a0_4 a0_5 a0_6 a0_7).bind fun bt103 => ((impl_ownBus.f l0_8 l0_9).bind fun bt115 => (some (bt103.1,bt103.2.1,bt103.2.2.1,bt103.2.2.2.1,bt103.2.2.2.2.1,bt103.2.2.2.2.2.1,bt103.2.2.2.2.2.2.1,bt103.2.2.2.2.2.2.2,bt115.1,bt115.2,a0_10,a0_11)))
def impl_ownCpu.T1 : Bool × List (List Nat × List Nat) := (true,[([],[]),([0],[0]),([1],[1]),([],[]),([3],[3]),([4,2],[4]),([],[]),([6],[6]),([],[]),([8],[8]),([2,5,7,9],[2,5,7,9]),([10,5,0,1,2,3,4,5,6,7,8,9,10],[10])])
def impl_ownCpu.B1 : List Nat := [0,1,3,0,8,31,0,64,0,256,1023,2047]
theorem impl_ownCpu.tab1 : rtab .any (opsOf Try.f33 1) = impl_ownCpu.T1 := by kernel_rfl
theorem impl_ownCpu.bits1 : waitsOk impl_ownCpu.T1.2 impl_ownCpu.B1 = true := by kernel_rfl
set_option maxHeartbeats 8000000 in
set_option maxRecDepth 100000 in
theorem impl_ownCpu.calls (A0_0 : Option Addr) (c0_0 : Nat) (l0_0 : List Int) (A0_1 : Option Addr) (c0_1 : Nat) (l0_1 : List Int) (a0_2 : Int) (a0_3 : Int) (a0_4 : Int) (a0_5 : Int) (a0_6 : Bool) (a0_7 : Bool) (A0_8 : Option Addr) (c0_8 : Nat) (l0_8 : List Int) (A0_9 : Option Addr) (c0_9 : Nat) (l0_9 : List (S115)) (a0_10 : Bool) (a0_11 : Bool) (r1 : List Int) (r2 : List Int) (r3 : Int) (r4 : Int) (r5 : Int) (r6 : Int) (r7 : Bool) (r8 : Bool) (r9 : List Int) (r10 : List (S115)) (r11 : Bool) (r12 : Bool) (w : World) (hr0_0 : Kd.C (Kd.int .i64) w A0_0 l0_0.length l0_0) (hc0_0 : l0_0.length ≤ c0_0) (hr0_1 : Kd.C (Kd.int .i64) w A0_1 l0_1.length l0_1) (hc0_1 : l0_1.length ≤ c0_1) (hr0_8 : Kd.C (Kd.int .i64) w A0_8 l0_8.length l0_8) (hc0_8 : l0_8.length ≤ c0_8) (hr0_9 : Kd.C k115 w A0_9 l0_9.length l0_9) (hc0_9 : l0_9.length ≤ c0_9) (h : impl_ownCpu.f l0_0 l0_1 a0_2 a0_3 a0_4 a0_5 a0_6 a0_7 l0_8 l0_9 a0_10 a0_11 = some (r1,r2,r3,r4,r5,r6,r7,r8,r9,r10,r11,r12)) :
  Calls Try.prog 33 #[.agg #[.slice A0_0 l0_0.length c0_0,.slice A0_1 l0_1.length c0_1,.int .i64 a0_2,.int .i64 a0_3,.int .i64 a0_4,.int .i64 a0_5,.bool a0_6,.bool a0_7,.slice A0_8 l0_8.length c0_8,.slice A0_9 l0_9.length c0_9,.bool a0_10,.bool a0_11]] w fun e w' => ∃ v0_ v1_ v8_ v9_ : Value,e = .returned (.agg #[v0_,v1_,.int .i64 r3,.int .i64 r4,.int .i64 r5,.int .i64 r6,.bool r7,.bool r8,v8_,v9_,.bool r11,.bool r12]) ∧ Kd.R (Kd.int .i64) 3 w' w.heap.size (fun k_ => some k_ ≠ (v1_ : Value).ownBlock ∧ some k_ ≠ (v8_ : Value).ownBlock) v0_ r1 ∧ Kd.R (Kd.int .i64) 3 w' w.heap.size (fun k_ => some k_ ≠ (v0_ : Value).ownBlock ∧ some k_ ≠ (v8_ : Value).ownBlock) v1_ r2 ∧ Kd.R (Kd.int .i64) 3 w' w.heap.size (fun k_ => some k_ ≠ (v0_ : Value).ownBlock ∧ some k_ ≠ (v1_ : Value).ownBlock) v8_ r9 ∧ Kd.R k115 115 w' w.heap.size (fun _ => True) v9_ r10 ∧ Below w.heap.size w w' := by
 have hu36 := Try.underlying36;have hu31 := Try.underlying31;have hu34 := Try.underlying34;have HR0_0 := aS hr0_0;have HC0_0 := aS hc0_0;clear hr0_0 hc0_0;have HR0_1 := aS hr0_1;have HC0_1 := aS hc0_1;clear hr0_1 hc0_1;have HR0_8 := aS hr0_8;have HC0_8 := aS hc0_8;clear hr0_8 hc0_8;have HR0_9 := aS hr0_9;have HC0_9 := aS hc0_9;clear hr0_9 hc0_9;have HB := aS (Below.refl w.heap.size w);unfold impl_ownCpu.f at h;have H := h;clear h;obtain ⟨⟨t103,t106,t109,t110,t111,t112,t113,t114⟩,A20,H⟩ := bE H;dsimp only at H;have A2 := aS A20;clear A20;obtain ⟨⟨t115,t118⟩,A30,H⟩ := bE H;dsimp only at H;have A3 := aS A30;clear A30;simp only [Option.some.injEq,Prod.mk.injEq] at H;obtain ⟨rfl,rfl,rfl,rfl,rfl,rfl,rfl,rfl,rfl,rfl,rfl,rfl⟩ := H;go_enter Try.func33,Try.ntmps33;try go_wp2_with (first | ((with_reducible refine gD 1 rfl ?_);refine bX (w:=w) #[.slice A0_0 l0_0.length c0_0,.slice A0_1 l0_1.length c0_1,.int .i64 a0_2,.int .i64 a0_3,.int .i64 a0_4,.int .i64 a0_5,.bool a0_6,.bool a0_7,.slice A0_8 l0_8.length c0_8,.slice A0_9 l0_9.length c0_9,.bool a0_10,.bool a0_11] 36 ?_;clear HB;intro gb101 w4 HB BK101 GW101) | ((with_reducible refine gD 2 rfl ?_);refine bY #[.slice none 0 0,.slice none 0 0,.int .i64 0,.int .i64 0,.int .i64 0,.int .i64 0,.bool false,.bool false,.slice none 0 0,.slice none 0 0,.bool false,.bool false] 36 ?_;intro gb102 hg w5 hbox hb;refine mk6 (xB BK101 hb) (xL hb) (hbox) (xG hg HB) (xN hg BK101) (xM hg BK101) ?_;clear BK101 HB;intro BK101 HB BK102 GW102 NB101_102 NB102_101;clear hb hbox hg))
 refine mk3 (blk_drew BK101.out) (blk_drew BK102.out) (below_drew1 HB.out) ?_;clear BK101 BK102 HB;intro BK101 BK102 HB;refine start_ (n := 12) (S := fun w' => w'.cell? ⟨gb101,0,none⟩ = some (.slice A0_0 l0_0.length c0_0) ∧ w'.cell? ⟨gb101,1,none⟩ = some (.slice A0_1 l0_1.length c0_1) ∧ w'.cell? ⟨gb101,2,none⟩ = some (.int .i64 a0_2) ∧ w'.cell? ⟨gb101,3,none⟩ = some (.int .i64 a0_3) ∧ w'.cell? ⟨gb101,4,none⟩ = some (.int .i64 a0_4) ∧ w'.cell? ⟨gb101,5,none⟩ = some (.int .i64 a0_5) ∧ w'.cell? ⟨gb101,6,none⟩ = some (.bool a0_6) ∧ w'.cell? ⟨gb101,7,none⟩ = some (.bool a0_7) ∧ w'.cell? ⟨gb101,8,none⟩ = some (.slice A0_8 l0_8.length c0_8) ∧ w'.cell? ⟨gb101,9,none⟩ = some (.slice A0_9 l0_9.length c0_9) ∧ w'.cell? ⟨gb101,10,none⟩ = some (.bool a0_10) ∧ w'.cell? ⟨gb101,11,none⟩ = some (.bool a0_11)) (ds := []) (bA 12 0) (by kernel_rfl) rfl rfl ⟨xc BK101,xc BK101,xc BK101,xc BK101,xc BK101,xc BK101,xc BK101,xc BK101,xc BK101,xc BK101,xc BK101,xc BK101⟩ (fun hHeld => ?_);refine with_tabW impl_ownCpu.tab1 impl_ownCpu.bits1 (fun HT_ HW_ => ?_);generalize w5.drew = w6 at BK101 BK102 HB hHeld ⊢;refine pB 0 3 1 ?_;refine pB 3 6 9 ?_;refine pB 6 9 73 ?_;refine pB 8 11 329 ?_;refine tB 1 4 331 ?_;refine tB 4 7 347 ?_;refine tB 7 10 475 ?_;refine tB 9 12 987 ?_;refine oneB 2 5 991 fun K hK => ?_;refine goesS Try.func62 #[.agg #[.slice A0_0 l0_0.length c0_0,.slice A0_1 l0_1.length c0_1,.int .i64 a0_2,.int .i64 a0_3,.int .i64 a0_4,.int .i64 a0_5,.bool a0_6,.bool a0_7]] ?_;(with_reducible refine (impl_ownRegs.calls _ _ l0_0 _ _ l0_1 a0_2 a0_3 a0_4 a0_5 a0_6 a0_7 t103 t106 t109 t110 t111 t112 t113 t114 _ ?side1 ?side2 ?side3 ?side4 A2.out).mono ?_);(case side1 => exact oC HR0_0.out);(case side2 => exact HC0_0.out);(case side3 => exact oC HR0_1.out);(case side4 => exact HC0_1.out);rintro e w7 ⟨v104,v107,rfl,ho0,ho1,hb⟩;refine ⟨_,rfl,?_⟩;refine mk5 (Kd.R_lower ho0 (below_size oL)) (Kd.R_lower ho1 (below_size oL)) (xB BK101 hb) (xB BK102 hb) (xL hb) ?_;clear BK101 BK102 HB;intro HO105 HO108 BK101 BK102 HB;refine hK.out _ _ (cz12 BK101.out) (fun hHeld => ?_);clear hK K;refine norm_ (a' := ?_) ?_ ?_;rotate_left;{show Act.put _ (some 5) _ = _;go_frame;(try simp only [i64_w,i32_w]);rfl};refine oneB 5 8 1023 fun K hK => ?_;refine goesS Try.func63 #[.agg #[.slice A0_8 l0_8.length c0_8,.slice A0_9 l0_9.length c0_9]] ?_;(with_reducible refine (impl_ownBus.calls _ _ l0_8 _ _ l0_9 t115 t118 _ ?side1 ?side2 ?side3 ?side4 A3.out).mono ?_);(case side1 => exact oC HR0_8.out);(case side2 => exact HC0_8.out);(case side3 => exact oC HR0_9.out);(case side4 => exact HC0_9.out);rintro e w8 ⟨v116,v119,rfl,ho0,ho1,hb⟩;refine ⟨_,rfl,?_⟩;refine mk7 (Kd.R_elder' (oR HO105.out) (Kd.R_base ho0) hb) (Kd.R_elder' (oR HO108.out) (Kd.R_base ho0) hb) (Kd.R_lower (Kd.R_new' (Kd.R_new' ho0 (Kd.R_lt (oR HO105.out))) (Kd.R_lt (oR HO108.out))) (below_size oL)) (Kd.R_lower ho1 (below_size oL)) (xB BK101 hb) (xB BK102 hb) (xL hb) ?_;clear HO105 HO108 BK101 BK102 HB;intro HO105 HO108 HO117 HO120 BK101 BK102 HB;obtain ⟨Ao9,co9,eo9⟩ := Kd.R_slice HO120.out;(first | subst eo9 | (injection eo9 with f1_ f2_ f3_;have f4_ := f1_.symm;have f5_ := f3_.symm;clear f1_ f2_ f3_;subst f4_;subst f5_));obtain ⟨Ao10,co10,eo10⟩ := Kd.R_slice HO117.out;(first | subst eo10 | (injection eo10 with f1_ f2_ f3_;have f4_ := f1_.symm;have f5_ := f3_.symm;clear f1_ f2_ f3_;subst f4_;subst f5_));obtain ⟨Ao11,co11,eo11⟩ := Kd.R_slice HO108.out;(first | subst eo11 | (injection eo11 with f1_ f2_ f3_;have f4_ := f1_.symm;have f5_ := f3_.symm;clear f1_ f2_ f3_;subst f4_;subst f5_));obtain ⟨Ao12,co12,eo12⟩ := Kd.R_slice HO105.out;(first | subst eo12 | (injection eo12 with f1_ f2_ f3_;have f4_ := f1_.symm;have f5_ := f3_.symm;clear f1_ f2_ f3_;subst f4_;subst f5_));refine hK.out _ _ (cz12 BK101.out) (fun hHeld => ?_);clear hK K;refine norm_ (a' := ?_) ?_ ?_;rotate_left;{show Act.put _ (some 8) _ = _;go_frame;(try simp only [i64_w,i32_w]);rfl};refine pB 10 13 2047 ?_;refine one_ (i := 11) (N := none) (bA 12 4095) rfl rfl (one_of HT_.out (by kernel_rfl)) (by decide) (fun K hK => ?_);obtain ⟨hs13,hs14,hs15,hs16,hs17,hs18,hs19,hs20,hs21,hs22,hs23,hs24⟩ := cz12 BK102.out;obtain ⟨hfs13,hfs14,hfs15,hfs16,hfs17,hfs18,hfs19,hfs20,hfs21,hfs22,hfs23,hfs24⟩ := fz12 BK102.out;have hns13_0 := NB101_102.out;have hms13_0 := NB102_101.out;refine skip_ (w1 := ?_) (by rfl) rfl ?_ ?_;rotate_left;{go_simp;rfl};refine hK.out _ _ ⟨(oK hHeld.1 NB101_102.out),(oK hHeld.2.1 NB101_102.out),(oK hHeld.2.2.1 NB101_102.out),(oK hHeld.2.2.2.1 NB101_102.out),(oK hHeld.2.2.2.2.1 NB101_102.out),(oK hHeld.2.2.2.2.2.1 NB101_102.out),(oK hHeld.2.2.2.2.2.2.1 NB101_102.out),(oK hHeld.2.2.2.2.2.2.2.1 NB101_102.out),(oK hHeld.2.2.2.2.2.2.2.2.1 NB101_102.out),(oK hHeld.2.2.2.2.2.2.2.2.2.1 NB101_102.out),(oK hHeld.2.2.2.2.2.2.2.2.2.2.1 NB101_102.out),(oK hHeld.2.2.2.2.2.2.2.2.2.2.2 NB101_102.out)⟩ (fun hHeld => ?_);clear hK K;refine done_ (done_of HT_.out (by kernel_rfl)) ?_;try go_wp2
 refine bodyPost_ret (results_cell_row rfl _ _ gb102 36 #[.slice Ao12 t103.length co12,.slice Ao11 t106.length co11,.int .i64 t109,.int .i64 t110,.int .i64 t111,.int .i64 t112,.bool t113,.bool t114,.slice Ao10 t115.length co10,.slice Ao9 t118.length co9,.bool a0_10,.bool a0_11] (0,0) _ rfl (oP BK102.out) Try.underlying36 rfl (by kernel_rfl)) rfl ?_;exact ⟨_,_,_,_,oE,by (with_reducible repeat (first | apply Kd.R_alloc | apply Kd.R_drewN | apply Kd.R_drew));exact Kd.R_mono (oFr HO105.out BK102.out) (fun _ hk => ⟨hk.1.1,hk.1.2⟩),by (with_reducible repeat (first | apply Kd.R_alloc | apply Kd.R_drewN | apply Kd.R_drew));exact Kd.R_mono (oFr HO108.out BK102.out) (fun _ hk => ⟨hk.1.1,hk.1.2⟩),by (with_reducible repeat (first | apply Kd.R_alloc | apply Kd.R_drewN | apply Kd.R_drew));exact Kd.R_mono (oFr HO117.out BK102.out) (fun _ hk => ⟨hk.1.1.2,hk.1.2⟩),by (with_reducible repeat (first | apply Kd.R_alloc | apply Kd.R_drewN | apply Kd.R_drew));exact Kd.R_mono (oFr HO120.out BK102.out) (fun _ hk => trivial),oL⟩

/-! ### impl_kindOf: function 130 -/
def impl_kindOf.j0 : Nat → Int → Bool → Option (Int)
 | 0,_,_ => none
 | k + 1,x0,x3 => if x3 = true then (some 1) else ((impl_within.f x0 384 447).bind fun t102 => (if t102 = true then (some 3) else (some 0)))
def impl_kindOf.f (k : Nat) (a0 : Int) : Option (Int) := (impl_within.f a0 448 495).bind fun t101 => (if t101 = true then (impl_kindOf.j0 k a0 true) else (impl_kindOf.j0 k a0 (decide (a0 ≥ 512))))
theorem impl_kindOf.mono_l : ∀ k,(∀ y0 y1,LeO (impl_kindOf.j0 k y0 y1) (impl_kindOf.j0 (k + 1) y0 y1))
 | 0 => fun _ _ r h => by simp [impl_kindOf.j0] at h
 | k + 1 => by
  have ih0 := impl_kindOf.mono_l k
  ·
   intro y0 y1
   unfold impl_kindOf.j0
   with_reducible repeat' first | exact ih0 _ _ | exact LeO.refl _ | exact LeO.none _ | refine LeO.ite ?_ ?_ | refine LeO.bind ?_ (fun _ => ?_)
theorem impl_kindOf.mono : ∀ a0 k,LeO (impl_kindOf.f k a0) (impl_kindOf.f (k + 1) a0) := by
 intro a0 k
 have ih0 := impl_kindOf.mono_l k
 unfold impl_kindOf.f
 with_reducible repeat' first | exact ih0 _ _ | exact LeO.refl _ | exact LeO.none _ | refine LeO.ite ?_ ?_ | refine LeO.bind ?_ (fun _ => ?_)
set_option maxHeartbeats 8000000 in
set_option maxRecDepth 100000 in
theorem impl_kindOf.calls (k : Nat) (a0 : Int) (r : Int) (w : World) (h : impl_kindOf.f k a0 = some r) :
  Calls Try.prog 130 #[.int .i64 a0] w fun e w' => e = .returned (.int .i64 r) ∧ Drawn0 w w' := by
 unfold impl_kindOf.f at h;have H := h;clear h;have HC2 := aS H;clear H;go_enter Try.func130,Try.ntmps130;go_upto_region 1 with (fail);go_cut [3] (fun v3 wc => ∃ (kq : Nat) (x3_1 : Bool),v3 = .bool x3_1 ∧ Aside0 (impl_kindOf.j0 kq a0 x3_1 = some r) ∧ Aside0 (kq ≤ k) ∧ Drawn0 w wc)
 case first =>
  have H := HC2.out;clear HC2;obtain ⟨t101,A3,H⟩ := bA_ H;by_cases c4 : t101 = true
  ·
   subst c4;replace H := iT H;have H' := aS H;clear H;go_wp2_with (first | ((with_reducible refine gate_callee (f := 72) rfl ?_);refine goesQ (some 5) Try.func72 #[.int .i64 a0,.int .i64 448,.int .i64 495] (impl_within.calls a0 448 495 true _ A3.out) fun nd => ?_));go_meet;case rel => exact ⟨_,(true),oE,H',⟨by first | omega | exact Nat.le_refl _⟩,by repeat (first | exact Drawn0.refl _ | apply Drawn0.step)⟩
  ·
   replace c4 := Bool.eq_false_iff.mpr c4;subst c4;replace H := iF H;have H' := aS H;clear H;go_wp2_with (first | ((with_reducible refine gate_callee (f := 72) rfl ?_);refine goesQ (some 5) Try.func72 #[.int .i64 a0,.int .i64 448,.int .i64 495] (impl_within.calls a0 448 495 false _ A3.out) fun nd => ?_));go_meet;case rel => exact ⟨_,(decide (a0 ≥ 512)),oE,H',⟨by first | omega | exact Nat.le_refl _⟩,by repeat (first | exact Drawn0.refl _ | apply Drawn0.step)⟩
 case rest =>
  clear HC2;obtain ⟨kq,x3_1,rfl,HA,HJ1,⟨mc1,rfl⟩⟩ := hcut;cases kq with
  | zero => exact absurd HA.out (by simp [impl_kindOf.j0])
  | succ kj1 =>
   have H := HA.out;clear HA;simp only [impl_kindOf.j0] at H;by_cases c5 : x3_1 = true;{subst c5;replace H := iT H;obtain rfl := Option.some.inj H;go_wp2;go_ret;exact ⟨by first | rfl | (simp;done) | (simp [*];done),by repeat (first | exact Drawn0.refl _ | apply Drawn0.step)⟩}
   ·
    replace c5 := Bool.eq_false_iff.mpr c5;subst c5;replace H := iF H;obtain ⟨t102,A6,H⟩ := bA_ H;by_cases c7 : t102 = true
    ·
     subst c7;replace H := iT H;obtain rfl := Option.some.inj H;go_wp2_with (first | ((with_reducible refine gate_callee (f := 72) rfl ?_);refine goesQ (some 12) Try.func72 #[.int .i64 a0,.int .i64 384,.int .i64 447] (impl_within.calls a0 384 447 true _ A6.out) fun nd => ?_));go_ret;exact ⟨by first | rfl | (simp;done) | (simp [*];done),by repeat (first | exact Drawn0.refl _ | apply Drawn0.step)⟩
    ·
     replace c7 := Bool.eq_false_iff.mpr c7;subst c7;replace H := iF H;obtain rfl := Option.some.inj H;go_wp2_with (first | ((with_reducible refine gate_callee (f := 72) rfl ?_);refine goesQ (some 12) Try.func72 #[.int .i64 a0,.int .i64 384,.int .i64 447] (impl_within.calls a0 384 447 false _ A6.out) fun nd => ?_));go_ret;exact ⟨by first | rfl | (simp;done) | (simp [*];done),by repeat (first | exact Drawn0.refl _ | apply Drawn0.step)⟩

/-! ### impl_codeOf: function 104 -/
mutual
def impl_codeOf.j0 : Nat → Int → Int → Int → Bool → Option (Int)
 | 0,_,_,_,_ => none
 | k + 1,x0,x1,x2,x15 => if x15 = true then (some 2) else ((impl_kindOf.f k x2).bind fun t101 => ((impl_kindOf.f k (wrap64 ((wrap64 (x2 + x1)) - 1))).bind fun t102 => (if t101 = 1 then (impl_codeOf.j1 k x0 t101 t102 true) else (impl_codeOf.j1 k x0 t101 t102 (t102 == 1)))))
def impl_codeOf.j1 : Nat → Int → Int → Int → Bool → Option (Int)
 | 0,_,_,_,_ => none
 | k + 1,x0,x7,x8,x23 => if x23 = true then (some 1) else (if x0 = 2 then (if x7 = 3 then (some 3) else (if x8 = 3 then (some 3) else (some 0))) else (some 0))
end
def impl_codeOf.f (k : Nat) (a0 : Int) (a1 : Int) (a2 : Int) : Option (Int) := if a1 = 2 then (impl_codeOf.j0 k a0 a1 a2 ((Int.tmod a2 2) == 1)) else (impl_codeOf.j0 k a0 a1 a2 false)
theorem impl_codeOf.mono_l : ∀ k,(∀ y0 y1 y2 y3,LeO (impl_codeOf.j0 k y0 y1 y2 y3) (impl_codeOf.j0 (k + 1) y0 y1 y2 y3)) ∧ (∀ y0 y1 y2 y3,LeO (impl_codeOf.j1 k y0 y1 y2 y3) (impl_codeOf.j1 (k + 1) y0 y1 y2 y3))
 | 0 => ⟨fun _ _ _ _ r h => by simp [impl_codeOf.j0] at h,fun _ _ _ _ r h => by simp [impl_codeOf.j1] at h⟩
 | k + 1 => by
  obtain ⟨ih0,ih1⟩ := impl_codeOf.mono_l k
  refine ⟨?_,?_⟩
  ·
   intro y0 y1 y2 y3
   unfold impl_codeOf.j0
   with_reducible repeat' first | exact ih0 _ _ _ _ | exact ih1 _ _ _ _ | exact impl_kindOf.mono _ _ | exact LeO.refl _ | exact LeO.none _ | refine LeO.ite ?_ ?_ | refine LeO.bind ?_ (fun _ => ?_)
  ·
   intro y0 y1 y2 y3
   unfold impl_codeOf.j1
   with_reducible repeat' first | exact ih0 _ _ _ _ | exact ih1 _ _ _ _ | exact impl_kindOf.mono _ _ | exact LeO.refl _ | exact LeO.none _ | refine LeO.ite ?_ ?_ | refine LeO.bind ?_ (fun _ => ?_)
theorem impl_codeOf.mono : ∀ a0 a1 a2 k,LeO (impl_codeOf.f k a0 a1 a2) (impl_codeOf.f (k + 1) a0 a1 a2) := by
 intro a0 a1 a2 k
 obtain ⟨ih0,ih1⟩ := impl_codeOf.mono_l k
 unfold impl_codeOf.f
 with_reducible repeat' first | exact ih0 _ _ _ _ | exact ih1 _ _ _ _ | exact impl_kindOf.mono _ _ | exact LeO.refl _ | exact LeO.none _ | refine LeO.ite ?_ ?_ | refine LeO.bind ?_ (fun _ => ?_)
set_option maxHeartbeats 8000000 in
set_option maxRecDepth 100000 in
theorem impl_codeOf.calls (k : Nat) (a0 : Int) (a1 : Int) (a2 : Int) (r : Int) (w : World) (h : impl_codeOf.f k a0 a1 a2 = some r) :
  Calls Try.prog 104 #[.int .i64 a0,.int .i64 a1,.int .i64 a2] w fun e w' => e = .returned (.int .i64 r) ∧ Drawn0 w w' := by
 unfold impl_codeOf.f at h;have H := h;clear h;have HC4 := aS H;clear H;go_enter Try.func104,Try.ntmps104;go_upto_region 1 with (fail);go_cut [15] (fun v15 wc => ∃ (kq : Nat) (x15_3 : Bool),v15 = .bool x15_3 ∧ Aside0 (impl_codeOf.j0 kq a0 a1 a2 x15_3 = some r) ∧ Aside0 (kq ≤ k) ∧ Drawn0 w wc)
 case first =>
  have H := HC4.out;clear HC4;by_cases c5 : a1 = 2;{rw [if_pos c5] at H;obtain ⟨c5b0,c5b1⟩ := eT c5;clear c5;(first | rw [c5b0] | (simp only [i64_w,i32_w];rw [c5b0]) | skip);have H' := aS H;clear H;go_wp2;go_meet;case rel => exact ⟨_,(((Int.tmod a2 2) == 1)),oE,H',⟨by first | omega | exact Nat.le_refl _⟩,by repeat (first | exact Drawn0.refl _ | apply Drawn0.step)⟩};{rw [if_neg c5] at H;obtain ⟨c5b0,c5b1⟩ := eF c5;(first | rw [c5b0] | (simp only [i64_w,i32_w];rw [c5b0]) | skip);have H' := aS H;clear H;go_wp2;go_meet;case rel => exact ⟨_,(false),oE,H',⟨by first | omega | exact Nat.le_refl _⟩,by repeat (first | exact Drawn0.refl _ | apply Drawn0.step)⟩}
 case rest =>
  clear HC4;obtain ⟨kq,x15_3,rfl,HA,HJ3,⟨mc3,rfl⟩⟩ := hcut;cases kq with
  | zero => exact absurd HA.out (by simp [impl_codeOf.j0])
  | succ kj3 =>
   have H := HA.out;clear HA;simp only [impl_codeOf.j0] at H;by_cases c6 : x15_3 = true;{subst c6;replace H := iT H;obtain rfl := Option.some.inj H;go_wp2;go_ret;exact ⟨by first | rfl | (simp;done) | (simp [*];done),by repeat (first | exact Drawn0.refl _ | apply Drawn0.step)⟩}
   ·
    replace c6 := Bool.eq_false_iff.mpr c6;subst c6;replace H := iF H;obtain ⟨t101,A7,H⟩ := bA_ H;obtain ⟨t102,A8,H⟩ := bA_ H;have HC9 := aS H;clear H;go_upto_region 4 with (first | ((with_reducible refine gate_callee (f := 130) rfl ?_);refine goesQ (some 17) Try.func130 #[.int .i64 a2] (impl_kindOf.calls kj3 a2 t101 _ A7.out) fun nd => ?_) | ((with_reducible refine gate_callee (f := 130) rfl ?_);refine goesQ (some 22) Try.func130 #[.int .i64 (wrap64 ((wrap64 (a2 + a1)) - 1))] (impl_kindOf.calls kj3 (wrap64 ((wrap64 (a2 + a1)) - 1)) t102 _ A8.out) fun nd => ?_));(try simp only [Act.put,List.setIfInBounds_toArray,List.set_cons_zero,List.set_cons_succ]);go_cut [23] (fun v23 wc => ∃ (kq : Nat) (x23_8 : Bool),v23 = .bool x23_8 ∧ Aside0 (impl_codeOf.j1 kq a0 t101 t102 x23_8 = some r) ∧ Aside0 (kq ≤ kj3) ∧ Drawn0 w wc)
    case first =>
     have H := HC9.out;clear HC9;by_cases c10 : t101 = 1;{rw [if_pos c10] at H;obtain ⟨c10b0,c10b1⟩ := eT c10;clear c10;(first | rw [c10b0] | (simp only [i64_w,i32_w];rw [c10b0]) | skip);have H' := aS H;clear H;go_wp2;go_meet;case rel => exact ⟨_,(true),oE,H',⟨by have := HJ3.out;first | omega | exact Nat.le_refl _⟩,by repeat (first | exact Drawn0.refl _ | apply Drawn0.step)⟩};{rw [if_neg c10] at H;obtain ⟨c10b0,c10b1⟩ := eF c10;(first | rw [c10b0] | (simp only [i64_w,i32_w];rw [c10b0]) | skip);have H' := aS H;clear H;go_wp2;go_meet;case rel => exact ⟨_,((t102 == 1)),oE,H',⟨by have := HJ3.out;first | omega | exact Nat.le_refl _⟩,by repeat (first | exact Drawn0.refl _ | apply Drawn0.step)⟩}
    case rest =>
     clear HC9;obtain ⟨kq,x23_8,rfl,HA,HJ8,⟨mc8,rfl⟩⟩ := hcut;cases kq with
     | zero => exact absurd HA.out (by simp [impl_codeOf.j1])
     | succ kj8 =>
      have H := HA.out;clear HA;simp only [impl_codeOf.j1] at H;by_cases c11 : x23_8 = true;{subst c11;replace H := iT H;obtain rfl := Option.some.inj H;go_wp2;go_ret;exact ⟨by first | rfl | (simp;done) | (simp [*];done),by repeat (first | exact Drawn0.refl _ | apply Drawn0.step)⟩}
      ·
       replace c11 := Bool.eq_false_iff.mpr c11;subst c11;replace H := iF H;by_cases c12 : a0 = 2
       ·
        rw [if_pos c12] at H;obtain ⟨c12b0,c12b1⟩ := eT c12;clear c12;by_cases c13 : t101 = 3;{rw [if_pos c13] at H;obtain ⟨c13b0,c13b1⟩ := eT c13;clear c13;obtain rfl := Option.some.inj H;go_wp2;go_ret;exact ⟨by first | rfl | (simp;done) | (simp [*];done),by repeat (first | exact Drawn0.refl _ | apply Drawn0.step)⟩}
        ·
         rw [if_neg c13] at H;obtain ⟨c13b0,c13b1⟩ := eF c13;by_cases c14 : t102 = 3;{rw [if_pos c14] at H;obtain ⟨c14b0,c14b1⟩ := eT c14;clear c14;obtain rfl := Option.some.inj H;go_wp2;go_ret;exact ⟨by first | rfl | (simp;done) | (simp [*];done),by repeat (first | exact Drawn0.refl _ | apply Drawn0.step)⟩};{rw [if_neg c14] at H;obtain ⟨c14b0,c14b1⟩ := eF c14;obtain rfl := Option.some.inj H;go_wp2;go_ret;exact ⟨by first | rfl | (simp;done) | (simp [*];done),by repeat (first | exact Drawn0.refl _ | apply Drawn0.step)⟩}
       · rw [if_neg c12] at H;obtain ⟨c12b0,c12b1⟩ := eF c12;obtain rfl := Option.some.inj H;go_wp2;go_ret;exact ⟨by first | rfl | (simp;done) | (simp [*];done),by repeat (first | exact Drawn0.refl _ | apply Drawn0.step)⟩

end Go.Proofs.Ythlhapafipikmaa.B
