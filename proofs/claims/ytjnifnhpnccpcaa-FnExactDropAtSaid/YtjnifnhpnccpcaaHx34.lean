-- Made by this session's program gprint.py out of the translation. Not trusted: Lean checks it.
import Derived.Test.YtjnifnhpnccpcaaHx0
import Derived.Test.YtjnifnhpnccpcaaHx9
import Derived.Test.YtjnifnhpnccpcaaHx21
import Derived.Test.YtjnifnhpnccpcaaHx31
import Derived.Test.YtjnifnhpnccpcaaHx32
namespace Go.Proofs.Ytjnifnhpnccpcaa.H
open Go.RowKit Go.Proofs.YtjnifnhpnccpcaaW.PrintWords Go.Proofs.YtjnifnhpnccpcaaW.PrintLast Go.Proofs.YtjnifnhpnccpcaaW.PrintMore
attribute [local go_sem] max2_int min2_int max_two min_two max_three min_three max_four min_four   -- for this text's walks alone
set_option linter.unusedVariables false
set_option linter.unusedSimpArgs false

/-! ### impl_DropAt: function 43 (by hand) -/
theorem dZ {w W W2 : World} (h : Below w.heap.size w W) (hb : Below W.heap.size W W2) : Below w.heap.size w W2 := h.trans ⟨hb.os,hb.tape,hb.output,hb.size,fun i hi => hb.block i (Nat.lt_of_lt_of_le hi h.size)⟩
theorem dGen {P : Program} {c : Code} {Q : Exit → Act → World → Prop} {a : Act} {W : World} (F : World → Prop) (hF : F W) (h : ∀ W',F W' → c.wp P Q a W') : c.wp P Q a W := h W hF
/-! rows of raw cells: a row told apart, opened and told again -/
section
variable {α : Type} {d : Kd α} {e : Nat} {base : Nat} {ok : Nat → Prop} {W : World} {v : Value} {xs : List α} {rows : List (List Value)}
theorem dS_raw (h : Kd.S d e W base ok v xs) : ∃ (C : List (List Value)) (f : Nat → Nat),C.length = xs.length ∧ (∀ k,v.ownBlock = some k → ok k) ∧ (Kd.raw d.sz).R e W base (fun k => some k = v.ownBlock) v C ∧ ∀ j x c,xs[j]? = some x → C[j]? = some c → d.M W base (fun k => (ok k ∧ some k ≠ v.ownBlock) ∧ f k = j) x c := by
  obtain ⟨f,h0,inner,ho,hr⟩ := h
  rw [List.length_zipIdx] at ho
  have hr2 := Kd.reps_raw hr (fun x c hp => ⟨d.K_len (d.K_of_M hp),d.K_one (d.K_of_M hp)⟩)
  rw [List.length_zipIdx] at hr2
  refine ⟨Kd.chunks d.sz xs.length inner,f,Kd.chunks_length _ _ _,h0,⟨fun k hk => hk.symm,inner,by rw [Kd.chunks_length];exact ho,hr2⟩,fun j x c hx hc => ?_⟩
  rw [Kd.chunks_get hc]
  exact hr.2 j (x,j) (Kd.zip_at hx)
theorem dS_of (hraw : (Kd.raw d.sz).R e W base (fun k => some k = v.ownBlock) v rows) (hok : ∀ k,v.ownBlock = some k → ok k) (okj : Nat → Nat → Prop) (hap : ∀ i j k,okj i k → okj j k → i = j) (hsub : ∀ j k,okj j k → ok k ∧ some k ≠ v.ownBlock) (hl : rows.length = xs.length)
    (hM : ∀ j x c,xs[j]? = some x → rows[j]? = some c → d.M W base (okj j) x c) : Kd.S d e W base ok v xs := by
  obtain ⟨_,inner,ho,hr⟩ := hraw
  obtain ⟨f,hf⟩ := Kd.reps_tag (d := d) (w := W) (base := base) (ok := fun k => ok k ∧ some k ≠ v.ownBlock) (xs := xs) (inner := inner) okj hap hsub (by rw [← hl];exact hr.1) (fun j x hx => by
    have hj : j < rows.length := by rw [hl];exact (List.getElem?_eq_some_iff.1 hx).1
    have hc : (inner.drop (j * d.sz)).take d.sz = rows[j] := (hr.2 j _ (List.getElem?_eq_getElem hj)).1
    rw [hc]
    exact hM j x _ hx (List.getElem?_eq_getElem hj))
  exact ⟨f,hok,inner,by rw [List.length_zipIdx,← hl];exact ho,hf⟩
/-- The indices below j for which q holds. -/
def ixs (q : Nat → Bool) (j : Nat) : List Nat := (List.range j).filter q
theorem ixs_succ (q : Nat → Bool) (j : Nat) : ixs q (j + 1) = ixs q j ++ (if q j = true then [j] else []) := by
  unfold ixs
  rw [List.range_succ,List.filter_append]
  congr 1
  cases h : q j <;> simp [h]
theorem ixs_le (q : Nat → Bool) (j : Nat) : (ixs q j).length ≤ j := by
  have := List.length_filter_le q (List.range j)
  rw [List.length_range] at this
  exact this
theorem ixs_all (q : Nat → Bool) (j : Nat) (h : ∀ m,m < j → q m = true) : ixs q j = List.range j := List.filter_eq_self.2 (fun m hm => h m (List.mem_range.1 hm))
def dInv (q : Nat → Bool) (C rows : List (List Value)) (i j : Nat) : Prop := rows.length = C.length ∧ i = (ixs q j).length ∧ rows.take i = (ixs q j).map (fun m => C.getD m []) ∧ rows.drop j = C.drop j ∧ j ≤ C.length
theorem dInv.le {q : Nat → Bool} {C : List (List Value)} {i j : Nat} (h : dInv q C rows i j) : i ≤ j := by rw [h.2.1];exact ixs_le q j
theorem dInv.start {q : Nat → Bool} {C : List (List Value)} {i : Nat} (h : ∀ m,m < i → q m = true) (hq : q i = false) (hi : i < C.length) : dInv q C C i (i + 1) := by
  have he : ixs q (i + 1) = List.range i := by rw [ixs_succ,hq,ixs_all q i h];simp
  refine ⟨rfl,by rw [he,List.length_range],?_,rfl,hi⟩
  rw [he]
  apply List.ext_getElem?
  intro m
  rw [List.getElem?_take,List.getElem?_map]
  by_cases hm : m < i
  · rw [if_pos hm,List.getElem?_range hm,List.getElem?_eq_getElem (by omega)];simp [List.getElem?_eq_getElem (show m < C.length by omega)]
  · rw [if_neg hm,List.getElem?_eq_none (by rw [List.length_range];omega)];rfl
theorem dInv.skip {q : Nat → Bool} {C : List (List Value)} {i j : Nat} (h : dInv q C rows i j) (hq : q j = false) (hj : j < C.length) : dInv q C rows i (j + 1) := by
  have he : ixs q (j + 1) = ixs q j := by rw [ixs_succ,hq];simp
  refine ⟨h.1,by rw [he];exact h.2.1,by rw [he];exact h.2.2.1,?_,hj⟩
  have := congrArg (List.drop 1) h.2.2.2.1
  rwa [List.drop_drop,List.drop_drop] at this
theorem dInv.keep {q : Nat → Bool} {C : List (List Value)} {i j : Nat} (h : dInv q C rows i j) (hq : q j = true) (hj : j < C.length) : dInv q C (rows.set i (C.getD j [])) (i + 1) (j + 1) := by
  have he : ixs q (j + 1) = ixs q j ++ [j] := by rw [ixs_succ,hq];simp
  have hl := h.le
  refine ⟨by rw [List.length_set];exact h.1,by rw [he,List.length_append,← h.2.1];rfl,?_,?_,hj⟩
  · rw [he,List.map_append,← h.2.2.1,List.take_add_one,List.take_set_of_le (Nat.le_refl _),List.getElem?_set_self (by rw [h.1];omega)]
    rfl
  · rw [List.drop_set_of_lt (by omega)]
    have := congrArg (List.drop 1) h.2.2.2.1
    rwa [List.drop_drop,List.drop_drop] at this
theorem dInv.read {q : Nat → Bool} {C : List (List Value)} {i j : Nat} (h : dInv q C rows i j) (hj : j < C.length) : rows.getD j [] = C.getD j [] := by
  have := congrArg (fun l => l[0]?) h.2.2.2.1
  simp only [List.getElem?_drop,Nat.add_zero] at this
  rw [List.getD_eq_getElem?_getD,List.getD_eq_getElem?_getD,this]
/-- What is kept, told apart again. -/
theorem dS_kept {q : Nat → Bool} {C : List (List Value)} {n : Nat} {f : Nat → Nat} (z : α) (hraw : (Kd.raw d.sz).R e W base (fun k => some k = v.ownBlock) v ((ixs q n).map (fun m => C.getD m []))) (hok : ∀ k,v.ownBlock = some k → ok k) (hn : n = xs.length) (hC : C.length = xs.length)
    (hM : ∀ j x c,xs[j]? = some x → C[j]? = some c → d.M W base (fun k => (ok k ∧ some k ≠ v.ownBlock) ∧ f k = j) x c) : Kd.S d e W base ok v ((ixs q n).map (fun m => xs.getD m z)) := by
  have hnd : (ixs q n).Nodup := List.nodup_range.filter _
  refine dS_of hraw hok (fun j k => (ok k ∧ some k ≠ v.ownBlock) ∧ (ixs q n)[j]? = some (f k)) (fun i j k hi hj => ?_) (fun j k hk => hk.1) (by rw [List.length_map,List.length_map]) (fun j x c hx hc => ?_)
  · obtain ⟨h1,e1⟩ := List.getElem?_eq_some_iff.1 hi.2
    obtain ⟨h2,e2⟩ := List.getElem?_eq_some_iff.1 hj.2
    exact (List.getElem_inj hnd).1 (e1.trans e2.symm)
  · rw [List.getElem?_map] at hx hc
    obtain ⟨m,hm,rfl⟩ := Option.map_eq_some_iff.1 hx
    rw [hm] at hc
    injection hc with hc
    have hml : m < xs.length := by
      have := List.mem_of_getElem? hm
      rw [ixs,List.mem_filter,List.mem_range] at this
      omega
    have hmC : m < C.length := by omega
    dsimp only at hc
    rw [List.getD_eq_getElem?_getD,List.getElem?_eq_getElem hmC] at hc
    rw [List.getD_eq_getElem?_getD,List.getElem?_eq_getElem hml]
    refine d.M_mono (fun k hk => ⟨hk.1,?_⟩) (hM m _ _ (List.getElem?_eq_getElem hml) (List.getElem?_eq_getElem (l := C) hmC |>.trans (by rw [show C[m] = c from hc])))
    rw [hm,hk.2]
theorem ixs_filter (p : α → Bool) (z : α) (xs : List α) : ∀ j,j ≤ xs.length → (ixs (fun m => p (xs.getD m z)) j).map (fun m => xs.getD m z) = (xs.take j).filter p
  | 0,_ => by simp [ixs]
  | j + 1,hj => by
    rw [ixs_succ,List.map_append,ixs_filter p z xs j (by omega),List.take_add_one,List.filter_append,List.getElem?_eq_getElem (by omega)]
    congr 1
    have : xs.getD j z = xs[j] := by rw [List.getD_eq_getElem?_getD,List.getElem?_eq_getElem (by omega)];rfl
    rw [this]
    cases h : p xs[j] <;> simp [h]
    exact this
end
def ovB (addr size u0 u1 : Int) : Bool := decide (addr < u1) && decide (wrap64 (addr + size) > u0)
set_option maxHeartbeats 8000000 in
set_option maxRecDepth 100000 in
theorem DropLit1.calls (u0 u1 : Int) (uv : Value) (addr size : Int) (ga gs : Nat) (w : World) (hx : w.heap[ga]? = some (.cells #[.int .i64 addr] 3 (0,0))) (hy : w.heap[gs]? = some (.cells #[.int .i64 size] 3 (0,0))) :
    Calls Try.prog 87 #[.agg #[.int .i64 u0,.int .i64 u1,uv],.pointer (some ⟨ga,0,none⟩),.pointer (some ⟨gs,0,none⟩)] w fun e w' => e = .returned (.bool (ovB addr size u0 u1)) ∧ Below w.heap.size w w' := by
  have hu1 := Try.underlying41;have ha : ∀ o,(w.alloc o).cell? ⟨ga,0,none⟩ = some (.int .i64 addr) := fun o => blk_cell (blk_alloc hx o) 0
  have hs : ∀ o,(w.alloc o).cell? ⟨gs,0,none⟩ = some (.int .i64 size) := fun o => blk_cell (blk_alloc hy o) 0
  have HB := aS (Below.refl w.heap.size w);by_cases c1 : addr < u1
  · have k1 := decide_eq_true c1
    have k3 : ovB addr size u0 u1 = decide (wrap64 (addr + size) > u0) := by unfold ovB;rw [k1,Bool.true_and]
    rw [k3];go_enter Try.func87,Try.ntmps87;go_wp2_with (first | go_in);go_ret;exact ⟨oE,oL⟩
  · have k1 := decide_eq_false c1
    have k3 : ovB addr size u0 u1 = false := by unfold ovB;rw [k1,Bool.false_and]
    rw [k3];go_enter Try.func87,Try.ntmps87;go_wp2_with (first | go_in);go_ret;exact ⟨oE,oL⟩
abbrev dV (ga gs : Nat) : Value := .func (.func 87) #[] #[.pointer (some ⟨ga,0,none⟩),.pointer (some ⟨gs,0,none⟩)]
abbrev dF (gh : Nat) : Value := .func (.func 121) #[] #[.pointer (some ⟨gh,0,none⟩)]
/-- The three boxes that the literals hold. -/
def DB (w : World) (addr size : Int) (ga gs gh : Nat) : Prop := w.heap[ga]? = some (.cells #[.int .i64 addr] 3 (0,0)) ∧ w.heap[gs]? = some (.cells #[.int .i64 size] 3 (0,0)) ∧ w.heap[gh]? = some (.cells #[dV ga gs] 38 (0,0))
theorem DB.below {w W : World} {addr size : Int} {ga gs gh : Nat} (h : DB w addr size ga gs gh) (hb : Below w.heap.size w W) : DB W addr size ga gs gh := ⟨blk_below h.1 hb,blk_below h.2.1 hb,blk_below h.2.2 hb⟩
theorem DB.a {w : World} {addr size : Int} {ga gs gh : Nat} (h : DB w addr size ga gs gh) : w.heap[ga]? = some (.cells #[.int .i64 addr] 3 (0,0)) := h.1
theorem DB.s {w : World} {addr size : Int} {ga gs gh : Nat} (h : DB w addr size ga gs gh) : w.heap[gs]? = some (.cells #[.int .i64 size] 3 (0,0)) := h.2.1
set_option maxHeartbeats 8000000 in
set_option maxRecDepth 100000 in
theorem DropLit2.calls (u0 u1 : Int) (uv : Value) (u3 : Int) (addr size : Int) (ga gs gh : Nat) (w : World) (hx : DB w addr size ga gs gh) :
    Calls Try.prog 121 #[.agg #[.int .i64 u0,.int .i64 u1,uv,.int .i64 u3],.pointer (some ⟨gh,0,none⟩)] w fun e w' => e = .returned (.bool (ovB addr size u0 u1)) ∧ Below w.heap.size w w' := by
  have hu1 := Try.underlying101;have hu2 := Try.underlying41;have hg : ∀ o,(w.alloc o).cell? ⟨gh,0,none⟩ = some (dV ga gs) := fun o => blk_cell (blk_alloc hx.2.2 o) 0
  have HB := aS (Below.refl w.heap.size w);have HX := aS hx;clear hx;go_enter Try.func121,Try.ntmps121;go_wp2_with (first | (go_at_call 87;go_loud ((with_reducible refine (DropLit1.calls _ _ _ addr size ga gs _ (blk_alloc HX.out.a _) (blk_alloc HX.out.s _)).mono ?_);rintro e w8 ⟨rfl,hb⟩;refine mk1 (xL hb) ?_;clear HB;intro HB)));go_ret;exact ⟨oE,oL⟩
def dropIx (addr size : Int) : List S101 → Nat → Int
  | [],_ => -1
  | x :: xs,i => if ovB addr size x.f0.f0 x.f0.f1 = true then (i : Int) else dropIx addr size xs (i + 1)
set_option maxHeartbeats 8000000 in
set_option maxRecDepth 100000 in
theorem DropIndex.calls (A0 : Option Addr) (c0 : Nat) (l0 : List S101) (addr size : Int) (ga gs gh : Nat) (w : World) (hr0 : Kd.C k101 w A0 l0.length l0) (hc0 : l0.length ≤ c0) (hl0 : l0.length ≤ 1048576) (hx : DB w addr size ga gs gh) :
  Calls Try.prog 114 #[.slice A0 l0.length c0,dF gh] w fun e w' => e = .returned (.int .i64 (dropIx addr size l0 0)) ∧ Below w.heap.size w w' := by
 have hu77 := Try.underlying101;have HR0 := aS hr0;have HC0 := aS hc0;have HX := aS hx;clear hr0 hc0 hx;have HB := aS (Below.refl w.heap.size w);go_enter Try.func114,Try.ntmps114;go_wp2;go_loopg [8] l0.length (fun kq v8 w' => ∃ (x8_1 : Int),v8 = .int .i64 x8_1 ∧ Aside0 (∃ i : Nat,x8_1 = (i : Int) ∧ i + kq = l0.length ∧ dropIx addr size (l0.drop i) i = dropIx addr size l0 0) ∧ Aside0 (Below w.heap.size w w'))
 case atStart => exact ⟨(0),rfl,⟨⟨0,rfl,by omega,rfl⟩⟩,⟨oL⟩⟩
 case round =>
  obtain ⟨x8,rfl,HA,HB⟩ := hrel;obtain ⟨i,hE,hk,hix⟩ := HA.out;clear HA;by_cases c3 : i < l0.length
  · have c3b0 : decide (x8 < (l0.length : Int)) = true := decide_eq_true (by omega)
    have c4b0 : decide (0 ≤ x8) = true := decide_eq_true (by omega);have p101 : 0 ≤ x8 := by omega
    have q101 : x8 < (l0.length : Int) := by omega
    have hr : rd_T101 l0 x8 = l0[i] := by rw [hE];simp [rd_T101,c3]
    rw [List.drop_eq_getElem_cons c3,dropIx,← hr] at hix;have hw : wrap64 (x8 + 1) = ((i + 1 : Nat) : Int) := by unfold wrap64;omega
    obtain ⟨ad101,A2,c2,e101,hx101_0,hx101_1,hx101_2,hx101_3,_,_⟩ := at_T101 HR0.out x8 p101 q101;cases e101
    replace hx101_0 := oJ HB hx101_0;replace hx101_1 := oJ HB hx101_1;replace hx101_2 := oJ HB hx101_2;replace hx101_3 := oJ HB hx101_3;have HI := aS hix;have HW := aS hw;have HK := aS hk;have HC3 := aS c3;have HE := aS hE;clear hix hw hk hr c3 hE;replace p101 := eq_true p101;replace q101 := eq_true q101;by_cases c7 : ovB addr size (rd_T101 l0 x8).f0.f0 (rd_T101 l0 x8).f0.f1 = true
    · have HJ := aS ((if_pos c7).symm.trans HI.out)
      go_wp2_with (first | (go_at_call 121;(with_reducible refine (DropLit2.calls _ _ _ _ addr size ga gs gh _ (HX.out.below HB.out)).mono ?_);rintro e w8 ⟨rfl,hb⟩;refine mk1 (xL hb) ?_;clear HB;intro HB;rw [c7]));go_ret;exact ⟨by rw [← HJ.out,HE.out];rfl,oL⟩
    · have HJ := aS ((if_neg c7).symm.trans HI.out)
      go_wp2_with (first | (go_at_call 121;(with_reducible refine (DropLit2.calls _ _ _ _ addr size ga gs gh _ (HX.out.below HB.out)).mono ?_);rintro e w8 ⟨rfl,hb⟩;refine mk1 (xL hb) ?_;clear HB;intro HB;rw [Bool.eq_false_iff.mpr c7]));go_roundg (gk - 1)
      case measure => have := HK.out;have := HC3.out;omega
      case rel => exact ⟨(wrap64 (x8 + 1)),oE,⟨⟨i + 1,HW.out,by have := HK.out;have := HC3.out;omega,HJ.out⟩⟩,⟨oL⟩⟩
  · have c3b0 : decide (x8 < (l0.length : Int)) = false := decide_eq_false (by omega)
    rw [List.drop_of_length_le (by omega),dropIx] at hix;have HI := aS hix;clear hix hk hE;go_wp2;go_ret;exact ⟨by rw [← HI.out];rfl,oL⟩
def dropL (addr size : Int) (l : List S101) : List S101 := l.filter (fun x => !ovB addr size x.f0.f0 x.f0.f1)
section
variable {e base g i c : Nat} {ok : Nat → Prop} {W : World} {rows : List (List Value)} {sz : Nat}
theorem dTail (h : (Kd.raw sz).R e W base ok (.slice (some ⟨g,0,none⟩) i c) rows) {o : Nat} {vs : List Value} (h1 : i * sz ≤ o) (h2 : o + vs.length ≤ c * sz) :
    (Kd.raw sz).R e (W.setCells g o vs) base ok (.slice (some ⟨g,0,none⟩) i c) rows := by
  obtain ⟨hok,inner,⟨ho1,ho2⟩,hr⟩ := h
  rcases ho2 with ⟨hv,_⟩ | ⟨g',cap',cur,hv,hb,hh,hnc,hcm,hcs,ht⟩
  · cases hv
  injection hv with ha hn hc
  injection ha with ha
  injection ha with hg
  subst hg;subst hc
  obtain ⟨cur',h3,h4,h5⟩ := setCells_row vs o W cur hh (by rw [hcs];exact h2)
  refine ⟨hok,inner,⟨ho1,.inr ⟨g,c,cur',by rw [hn],hb,h3,hnc,hcm,h4.trans hcs,?_⟩⟩,hr⟩
  have hm : rows.length * sz ≤ o := by rw [← hn];exact h1
  have hol : o ≤ cur.toList.length := by rw [Array.length_toList,hcs];show o ≤ c * sz;omega
  rw [h5,List.append_assoc,List.take_append_of_le_length (by rw [List.length_take];show rows.length * sz ≤ _;omega),List.take_take]
  refine Eq.trans ?_ ht
  congr 1
  exact Nat.min_eq_left hm
end
theorem dBlock {e base g n c sz : Nat} {ok : Nat → Prop} {W : World} {rows : List (List Value)} (h : (Kd.raw sz).R e W base ok (.slice (some ⟨g,0,none⟩) n c) rows) : ∃ cur,W.heap[g]? = some (.cells cur e (0,0)) ∧ cur.size = c * sz := by
  obtain ⟨_,inner,⟨_,ho2⟩,_⟩ := h
  rcases ho2 with ⟨hv,_⟩ | ⟨g',cap',cur,hv,hb,hh,hnc,hcm,hcs,ht⟩
  · cases hv
  injection hv with ha hn hc
  injection ha with ha
  injection ha with hg
  subst hg;subst hc
  exact ⟨cur,hh,hcs⟩
theorem dBelow {b : Nat} {w W : World} (h : Below b w W) {g : Nat} (hg : b ≤ g) (o : Nat) (vs : List Value) : Below b w (W.setCells g o vs) := by
  obtain ⟨s1,s2,s3,s4⟩ := setCells_same g vs o W
  exact ⟨s1.trans h.os,s2.trans h.tape,s3.trans h.output,by rw [s4];exact h.size,fun k hk => (setCells_far vs o k (by omega)).trans (h.block k hk)⟩
theorem dCell {W : World} {g t j : Nat} {cur : Array Value} (h : W.heap[g]? = some (.cells cur t (0,0))) (hj : j < cur.size) : (W.cell? ⟨g,j,none⟩).isSome = true := by
  rw [blk_cell h,Array.getElem?_eq_getElem hj];rfl
theorem dZeros (n : Nat) : (Builtin.zeroCells #[.int .i64 0,.int .i64 0,.slice none 0 0,.int .i64 0] n).toList.length = n * 4 ∧ ∀ u ∈ (Builtin.zeroCells #[.int .i64 0,.int .i64 0,.slice none 0 0,.int .i64 0] n).toList,u.oneCell' = true := by
  refine ⟨by simp [Builtin.zeroCells],fun u hu => ?_⟩
  simp only [Builtin.zeroCells,Array.toList_map,List.mem_map] at hu
  obtain ⟨i,_,rfl⟩ := hu
  have h4 : i % 4 < 4 := Nat.mod_lt _ (by decide)
  show (#[Value.int .i64 0,.int .i64 0,.slice none 0 0,.int .i64 0][i % 4]!).oneCell' = true
  rcases (by omega : i % 4 = 0 ∨ i % 4 = 1 ∨ i % 4 = 2 ∨ i % 4 = 3) with h | h | h | h <;> rw [h] <;> rfl
theorem dClear {P : Program} (w : World) (t e ty : TypeId) (z : Value) (ht : P.underlying t = some (.slice e)) (hv : ∀ w,(zeroValue e).run P w = .ok z w) (b o n c : Nat) (hn : 0 < n) (h1 : ∀ u ∈ (Builtin.zeroCells z.cells n).toList,u.oneCell' = true)
    (hc : ∀ j,j < (Builtin.zeroCells z.cells n).toList.length → (w.cell? ⟨b,o + j,none⟩).isSome = true) (hf : ∀ j,j < (Builtin.zeroCells z.cells n).toList.length → w.frozen? ⟨b,o + j,none⟩ = false) :
    (Builtin.clear_ #[t] ty #[.slice (some ⟨b,o,none⟩) n c]).run P w = .ok (.tuple #[]) (w.setCells b o (Builtin.zeroCells z.cells n).toList) := by
  have hst := run_storeCells_cells (P := P) b o (Builtin.zeroCells z.cells n).toList 0 w (by simpa using hc) (by simpa using hf) h1
  simp only [Nat.add_zero] at hst
  obtain ⟨m,rfl⟩ : ∃ m,n = m + 1 := ⟨n - 1,by omega⟩
  simp [Builtin.clear_,run_underlying ht,hv,hst]
theorem dropIx_spec (addr size : Int) : ∀ (l : List S101) (i : Nat),(dropIx addr size l i = -1 ∧ ∀ x ∈ l,ovB addr size x.f0.f0 x.f0.f1 = false) ∨ ∃ m,m < l.length ∧ dropIx addr size l i = ((i + m : Nat) : Int) ∧ (∀ x,l[m]? = some x → ovB addr size x.f0.f0 x.f0.f1 = true) ∧ ∀ j,j < m → ∀ x,l[j]? = some x → ovB addr size x.f0.f0 x.f0.f1 = false
  | [],i => .inl ⟨rfl,fun x hx => absurd hx (List.not_mem_nil)⟩
  | x :: xs,i => by
    by_cases h : ovB addr size x.f0.f0 x.f0.f1 = true
    · exact .inr ⟨0,by simp,by rw [dropIx,if_pos h];simp,fun y hy => by simp at hy;rw [← hy];exact h,fun j hj => absurd hj (Nat.not_lt_zero _)⟩
    · rcases dropIx_spec addr size xs (i + 1) with ⟨e1,h1⟩ | ⟨m,hm,e1,h1,h2⟩
      · refine .inl ⟨by rw [dropIx,if_neg h];exact e1,fun y hy => ?_⟩
        rcases List.mem_cons.1 hy with rfl | hy
        · exact Bool.eq_false_iff.2 h
        · exact h1 y hy
      · refine .inr ⟨m + 1,by simp;omega,by rw [dropIx,if_neg h,e1];congr 1;omega,fun y hy => h1 y (by simpa using hy),fun j hj y hy => ?_⟩
        cases j with
        | zero => simp at hy;rw [← hy];exact Bool.eq_false_iff.2 h
        | succ j => exact h2 j (by omega) y (by simpa using hy)
abbrev dQ (addr size : Int) (l : List S101) (m : Nat) : Bool := !ovB addr size (l.getD m z101).f0.f0 (l.getD m z101).f0.f1
theorem dropL_ixs (addr size : Int) (l : List S101) : (ixs (dQ addr size l) l.length).map (fun m => l.getD m z101) = dropL addr size l := by
  have := ixs_filter (fun x : S101 => !ovB addr size x.f0.f0 x.f0.f1) z101 l l.length (Nat.le_refl _)
  rw [List.take_of_length_le (Nat.le_refl _)] at this
  exact this
theorem dropL_all (addr size : Int) (l : List S101) (h : ∀ x ∈ l,ovB addr size x.f0.f0 x.f0.f1 = false) : dropL addr size l = l := List.filter_eq_self.2 (fun x hx => by rw [h x hx];rfl)
theorem dPut {e base g n cap i : Nat} {ok : Nat → Prop} {W : World} {rows : List (List Value)} (h : (Kd.raw 4).R e W base ok (.slice (some ⟨g,0,none⟩) n cap) rows) (hi : i < n) (a b c d : Value) (ho : ∀ u ∈ [a,b,c,d],u.oneCell' = true) :
    (Kd.raw 4).R e ((((W.setCell ⟨g,i * 4,none⟩ a).setCell ⟨g,i * 4 + 1,none⟩ b).setCell ⟨g,i * 4 + 2,none⟩ c).setCell ⟨g,i * 4 + 3,none⟩ d) base ok (.slice (some ⟨g,0,none⟩) n cap) (rows.set i [a,b,c,d]) := by
  obtain ⟨ci,hcl,_,hcc,_⟩ := Kd.R_elem h [] (i : Int) (by omega) (by omega)
  exact (Kd.R_seg h (i : Int) (by omega) (by omega) (c := ci) (seg := [a,b,c,d]) (j := 0) (x' := [a,b,c,d]) (okp := fun _ => False) hcl hcc (by show 0 + 4 ≤ 4;decide) (by
    have : ci.drop 4 = [] := List.drop_of_length_le (by rw [hcl];exact Nat.le_refl _)
    refine ⟨?_,?_,?_⟩
    · show [] ++ [a,b,c,d] ++ ci.drop (0 + 4) = _
      rw [Nat.zero_add,this];rfl
    · show ([] ++ [a,b,c,d] ++ ci.drop (0 + 4)).length = 4
      rw [Nat.zero_add,this];rfl
    · show ∀ u ∈ [] ++ [a,b,c,d] ++ ci.drop (0 + 4),u.oneCell' = true
      rw [Nat.zero_add,this];simpa using ho) (fun _ hk => hk.elim)).1
theorem dW {j n : Nat} (h : j < n) (hn : n ≤ 1048576) : Value.int .i64 (wrap64 ((j : Int) + 1)) = .int .i64 ((j + 1 : Nat) : Int) := by
  congr 1
  unfold wrap64
  omega
theorem d4 {c : List Value} (h : c.length = 4) : ∃ u0 u1 u2 u3,c = [u0,u1,u2,u3] := by
  match c,h with
  | [u0,u1,u2,u3],_ => exact ⟨u0,u1,u2,u3,rfl⟩
theorem DB.kept {w W : World} {addr size : Int} {ga gs gh g : Nat} (h : DB w addr size ga gs gh) (hk : Kept w W (fun k_ => k_ = g)) (hn : ga ≠ g ∧ gs ≠ g ∧ gh ≠ g) : DB W addr size ga gs gh := ⟨blk_kept h.1 hk hn.1,blk_kept h.2.1 hk hn.2.1,blk_kept h.2.2 hk hn.2.2⟩
theorem DB.apart {w : World} {addr size : Int} {ga gs gh g : Nat} {cur : Array Value} (h : DB w addr size ga gs gh) (hg : w.heap[g]? = some (.cells cur 101 (0,0))) : ga ≠ g ∧ gs ≠ g ∧ gh ≠ g := by
  refine ⟨?_,?_,?_⟩ <;> rintro rfl
  · have := hg.symm.trans h.1;simp at this
  · have := hg.symm.trans h.2.1;simp at this
  · have := hg.symm.trans h.2.2;simp at this
set_option maxHeartbeats 8000000 in
set_option maxRecDepth 100000 in
theorem DropFunc.calls (A0 : Option Addr) (c0 : Nat) (l0 : List S101) (addr size : Int) (ga gs gh : Nat) (ok : Nat → Prop) (w0 w : World) (hB : Below w0.heap.size w0 w) (hS : Kd.S k101 101 w w0.heap.size ok (.slice A0 l0.length c0) l0) (hl0 : l0.length ≤ 1048576) (hx : DB w addr size ga gs gh) :
    Calls Try.prog 120 #[.slice A0 l0.length c0,dF gh] w fun e w' => e = .returned (.slice A0 (dropL addr size l0).length c0) ∧ Kd.S k101 101 w' w0.heap.size ok (.slice A0 (dropL addr size l0).length c0) (dropL addr size l0) ∧ Below w0.heap.size w0 w' ∧ Kept w w' (fun k_ => some k_ = (Value.slice A0 l0.length c0).ownBlock) := by
  have hu77 := Try.underlying101;have hu59 := Try.underlying59;obtain ⟨_,hc0,hC0⟩ := Kd.S_reads' hS;have HIF := DropIndex.calls A0 c0 l0 addr size ga gs gh w hC0 hc0 hl0 hx;have HS := aS hS;have HX := aS hx;have HB0 := aS hB;rcases dropIx_spec addr size l0 0 with ⟨e1,hall⟩ | ⟨i0,hi0,e1,hhit,hall⟩
  · rw [e1] at HIF
    have HI := aS HIF;have HA := aS (dropL_all addr size l0 hall);clear HIF hS hx hB hC0 hall;go_enter Try.func120,Try.ntmps120;go_wp2_with (first | (go_at_call 114;go_loud (refine HI.out.mono ?_;rintro e w8 ⟨rfl,hb⟩;have HB8 := aS hb;clear hb)));go_ret;rw [HA.out];exact ⟨rfl,Kd.S_below HS.out HB8.out,HB0.out.trans (below_low' HB8.out HB0.out.size),Kept.of_below HB8.out _⟩
  · rw [e1] at HIF
    have hsp : 0 < l0.length := by omega
    obtain ⟨g,cap,hv,hgb,hgs,cur,hgc⟩ := Kd.S_form hS hsp;injection hv with hv1 hv2 hv3;subst hv1;subst hv3;have Ane := aS (hx.apart hgc);obtain ⟨C,f,hCl,hok,hraw,hM⟩ := dS_raw hS;have hgo : (Value.slice (some ⟨g,0,none⟩) l0.length c0).ownBlock = some g := rfl;have hCn : i0 < C.length := by omega
    have hI0 : dInv (dQ addr size l0) C C i0 (i0 + 1) := dInv.start (fun m hm => by
      have hml : m < l0.length := by omega
      have := hall m hm _ (List.getElem?_eq_getElem hml)
      unfold dQ;rw [List.getD_eq_getElem?_getD,List.getElem?_eq_getElem hml];simpa using this) (by
      have := hhit _ (List.getElem?_eq_getElem hi0);unfold dQ;rw [List.getD_eq_getElem?_getD,List.getElem?_eq_getElem hi0];simpa using this) hCn
    have AI := aS HIF;have AM := aS hM;have AR := aS hraw;have AV := aS hI0;have ACl := aS hCl;have Ak := aS hok;have Ag := aS hgb;have Ags := aS hgs;have hne1 : (((0 + i0 : Nat) : Int) == -1) = false := beq_eq_false_iff_ne.2 (by omega);clear HIF hM hraw hI0 hCl hok hgb hgs hgc hS hx hB hC0 hall hhit hgo;go_enter Try.func120,Try.ntmps120;go_wp2_with (first | (go_at_call 114;go_loud (refine AI.out.mono ?_;rintro e w8 ⟨rfl,hb⟩;have HB8 := aS hb;clear hb)));go_loopg [5,6,7] l0.length (fun gq s5 s6 _ wr => ∃ (i j : Nat) (rows : List (List Value)),s5 = .int .i64 i ∧ s6 = .int .i64 j ∧ Aside0 (i < j) ∧ Aside0 (l0.length - j ≤ gq) ∧ Aside0 (dInv (dQ addr size l0) C rows i j) ∧ Aside0 ((Kd.raw 4).R 101 wr w0.heap.size (fun k_ => some k_ = some g) (.slice (some ⟨g,0,none⟩) l0.length c0) rows) ∧ Aside0 (Kept w wr (fun k_ => k_ = g)) ∧ Aside0 (Below w0.heap.size w0 wr))
    case atStart => exact ⟨i0,i0 + 1,C,by go_num,by go_num,⟨by omega⟩,⟨by omega⟩,AV,⟨Kd.R_below AR.out HB8.out⟩,⟨Kept.of_below HB8.out _⟩,⟨HB0.out.trans (below_low' HB8.out HB0.out.size)⟩⟩
    case round =>
      obtain ⟨i,j,rows,rfl,rfl,Aij2,AG,AV2,AR2,AK,AB⟩ := hrel;clear AV AR HB8 AI;have hjn := AV2.out.2.2.2.2;rw [ACl.out] at hjn;have hij := AV2.out.le;by_cases hlt : j < l0.length
      · have k0 : decide ((j : Int) < (l0.length : Int)) = true := decide_eq_true (by omega)
        have p0 : (0 ≤ (j : Int)) = True := eq_true (by omega);have q0 : ((j : Int) < (l0.length : Int)) = True := eq_true (by omega);have p1 : (0 ≤ (i : Int)) = True := eq_true (by omega);have q1 : ((i : Int) < (l0.length : Int)) = True := eq_true (by omega);have hjC : j < C.length := by rw [ACl.out];exact hlt
        obtain ⟨cj,hcjl,hcj,hcc,hfr⟩ := Kd.R_elem AR2.out [] (j : Int) (by omega) (by omega);have hcj2 : cj = C.getD j [] := hcj.1.trans (by rw [Int.toNat_natCast];exact AV2.out.read hjC);rw [hcj2] at hcc;have hMj := AM.out j _ _ (List.getElem?_eq_getElem hlt) (List.getElem?_eq_getElem hjC);have hMj2 := Kd.M_step hMj (w1 := wr) (fun k hk hl => AK.out.2 k hl (fun he => hk.1.2 (by rw [he];rfl)));have hgj : C[j] = C.getD j [] := by rw [List.getD_eq_getElem?_getD,List.getElem?_eq_getElem hjC];rfl
        have hlj : l0[j] = l0.getD j z101 := by rw [List.getD_eq_getElem?_getD,List.getElem?_eq_getElem hlt];rfl
        rw [hgj,hlj] at hMj2;obtain ⟨v2,hv2,hvR⟩ := k101_openM hMj2;obtain ⟨A2,c2,rfl⟩ := Kd.R_slice hvR;rw [hv2] at hcc;have hq : dQ addr size l0 j = !ovB addr size (l0.getD j z101).f0.f0 (l0.getD j z101).f0.f1 := rfl;generalize l0.getD j z101 = x at hcc hv2 hq;have hx0 : wr.cell? ⟨g,j * 4,none⟩ = some (.int .i64 x.f0.f0) := hcc 0 _ rfl;have hx1 : wr.cell? ⟨g,j * 4 + 1,none⟩ = some (.int .i64 x.f0.f1) := hcc 1 _ rfl;have hx2 : wr.cell? ⟨g,j * 4 + 2,none⟩ = some (.slice A2 x.f0.f2.length c2) := hcc 2 _ rfl;have hx3 : wr.cell? ⟨g,j * 4 + 3,none⟩ = some (.int .i64 x.f1) := hcc 3 _ rfl;have AX2 := aS (HX.out.kept AK.out Ane.out);have Aq := aS hq;have Av2 := aS hv2;have Alt := aS hlt;have AgW := aS (Nat.lt_of_lt_of_le Ags.out AK.out.1);have Aij := aS hij;clear hcj hcj2 hcc hfr hMj hMj2 hgj hlj hvR hcjl hq hv2 hlt hij hjC hjn
        cases hov : ovB addr size x.f0.f0 x.f0.f1 with
        | true =>
          go_wp2_with (first | (go_at_call 121;go_loud (refine (DropLit2.calls _ _ _ _ addr size ga gs gh _ (AX2.out.below (show Below wr.heap.size wr _ from by repeat (first | exact HBX.out | refine below_set ?_ HGE.out)))).mono ?_;rintro e w8 ⟨rfl,hb⟩;rw [hov];have HBY := aS (dZ (show Below wr.heap.size wr _ from by repeat (first | exact HBX.out | refine below_set ?_ HGE.out)) hb);clear hb)) | ((with_reducible refine gD 7 rfl ?_);go_loud (refine bY #[.int .i64 0,.int .i64 0,.slice none 0 0,.int .i64 0] 101 ?_;intro gv hg_ w1 hbx hb;have HGE := aS (Nat.le_of_eq hg_.symm : wr.heap.size ≤ gv);have HBX := aS hb;have HKV := aS hbx;obtain ⟨hz0,hz1,hz2,hz3⟩ := cz4 hbx;obtain ⟨hf0,hf1,hf2,hf3⟩ := fz4 hbx;clear hg_ hb hbx)));have hqf : dQ addr size l0 j = false := by rw [Aq.out,hov];rfl
          go_roundg (l0.length - (j + 1))
          case measure => have := Alt.out;have := AG.out;omega
          case rel => have hltj := Alt.out;exact ⟨i,j + 1,rows,rfl,dW hltj hl0,⟨by have := Aij2.out;omega⟩,⟨by omega⟩,⟨AV2.out.skip hqf (by rw [ACl.out];exact Alt.out)⟩,⟨Kd.R_below AR2.out HBY.out⟩,⟨AK.out.below HBY.out⟩,⟨AB.out.trans (below_low' HBY.out AB.out.size)⟩⟩
        | false =>
          have AXC := aS (fun (W : World) (hb : Below wr.heap.size wr W) => Kd.R_elem (Kd.R_below AR2.out hb) [] (i : Int) (by omega) (by have := Alt.out;have := Aij.out;omega));go_wp2_with (first | (go_at_call 121;go_loud (refine (DropLit2.calls _ _ _ _ addr size ga gs gh _ (AX2.out.below (show Below wr.heap.size wr _ from by repeat (first | exact HBX.out | refine below_set ?_ HGE.out)))).mono ?_;rintro e w8 ⟨rfl,hb⟩;rw [hov];have HBY := aS (dZ (show Below wr.heap.size wr _ from by repeat (first | exact HBX.out | refine below_set ?_ HGE.out)) hb);obtain ⟨hy0,hy1,hy2,hy3⟩ := cz4 (blk_below (oP (cs2 := #[.int .i64 x.f0.f0,.int .i64 x.f0.f1,.slice A2 x.f0.f2.length c2,.int .i64 x.f1]) HKV.out) hb);obtain ⟨ci,hcil,-,hci,hfi⟩ := AXC.out w8 HBY.out;obtain ⟨u0,u1,u2,u3,rfl⟩ : ∃ u0 u1 u2 u3,ci = [u0,u1,u2,u3] := d4 hcil;have hi0 : w8.cell? ⟨g,i * 4,none⟩ = some u0 := hci 0 _ rfl;have hi1 : w8.cell? ⟨g,i * 4 + 1,none⟩ = some u1 := hci 1 _ rfl;have hi2 : w8.cell? ⟨g,i * 4 + 2,none⟩ = some u2 := hci 2 _ rfl;have hi3 : w8.cell? ⟨g,i * 4 + 3,none⟩ = some u3 := hci 3 _ rfl;have hj0 : w8.frozen? ⟨g,i * 4,none⟩ = false := hfi 0;have hj1 : w8.frozen? ⟨g,i * 4 + 1,none⟩ = false := hfi 1;have hj2 : w8.frozen? ⟨g,i * 4 + 2,none⟩ = false := hfi 2;have hj3 : w8.frozen? ⟨g,i * 4 + 3,none⟩ = false := hfi 3;clear hci hfi hcil;clear hb)) | ((with_reducible refine gD 7 rfl ?_);go_loud (refine bY #[.int .i64 0,.int .i64 0,.slice none 0 0,.int .i64 0] 101 ?_;intro gv hg_ w1 hbx hb;have HGE := aS (Nat.le_of_eq hg_.symm : wr.heap.size ≤ gv);have HBX := aS hb;have HKV := aS hbx;obtain ⟨hz0,hz1,hz2,hz3⟩ := cz4 hbx;obtain ⟨hf0,hf1,hf2,hf3⟩ := fz4 hbx;clear hg_ hb hbx)));have hqt : dQ addr size l0 j = true := by rw [Aq.out,hov];rfl
          go_roundg (l0.length - (j + 1))
          case measure => have := Alt.out;have := AG.out;omega
          case rel =>
            have hltj := Alt.out;have hle := Aij.out;have hR3 := dPut (Kd.R_below AR2.out HBY.out) (i := i) (by omega) (.int .i64 x.f0.f0) (.int .i64 x.f0.f1) (.slice A2 x.f0.f2.length c2) (.int .i64 x.f1) (by simp [Value.oneCell']);rw [← Av2.out] at hR3;exact ⟨i + 1,j + 1,rows.set i (C.getD j []),dW (by omega) hl0,dW hltj hl0,⟨by have := Aij2.out;omega⟩,⟨by omega⟩,⟨AV2.out.keep hqt (by rw [ACl.out];exact hltj)⟩,⟨hR3⟩,⟨((((AK.out.below HBY.out).setCell (p := ⟨g,_,none⟩) (.inl rfl) _).setCell (p := ⟨g,_,none⟩) (.inl rfl) _).setCell (p := ⟨g,_,none⟩) (.inl rfl) _).setCell (p := ⟨g,_,none⟩) (.inl rfl) _⟩,⟨((((AB.out.trans (below_low' HBY.out AB.out.size)).setCell (p := ⟨g,_,none⟩) Ag.out _).setCell (p := ⟨g,_,none⟩) Ag.out _).setCell (p := ⟨g,_,none⟩) Ag.out _).setCell (p := ⟨g,_,none⟩) Ag.out _⟩⟩
      · obtain rfl : j = l0.length := by omega
        have k0 : decide ((l0.length : Int) < (l0.length : Int)) = false := decide_eq_false (by omega);have hin := Aij2.out;have hci : ¬ c0 = i := by omega
        have hci2 : ¬ i = c0 := by omega
        have hz : ∀ w,(zeroValue 101).run Try.prog w = .ok (.agg #[.int .i64 0,.int .i64 0,.slice none 0 0,.int .i64 0]) w := fun w => rfl
        obtain ⟨cb,hcur,hcs⟩ := dBlock AR2.out
        have hcl : ∀ ty,(Builtin.clear_ #[59] ty #[.slice (some ⟨g,i * 4,none⟩) (l0.length - i) (c0 - i)]).run Try.prog wr = .ok (.tuple #[]) (wr.setCells g (i * 4) (Builtin.zeroCells #[.int .i64 0,.int .i64 0,.slice none 0 0,.int .i64 0] (l0.length - i)).toList) := fun ty =>
          dClear wr 59 101 ty _ hu59 hz g (i * 4) (l0.length - i) (c0 - i) (by omega) (dZeros _).2 (fun j hj => dCell hcur (by rw [hcs];have : j < (l0.length - i) * 4 := Nat.lt_of_lt_of_eq hj (dZeros _).1;omega)) (fun j hj => blk_frozen hcur _)
        go_wp2;go_ret;have hil : (dropL addr size l0).length = i := by rw [← dropL_ixs,List.length_map];exact AV2.out.2.1.symm
        rw [hil];refine ⟨rfl,?_,dBelow AB.out Ag.out _ _,?_⟩
        · have hT := Kd.R_take AR2.out (m := i) (by rw [AV2.out.1,ACl.out];omega)
          rw [AV2.out.2.2.1] at hT;have hT2 := dTail hT (o := i * 4) (vs := (Builtin.zeroCells #[.int .i64 0,.int .i64 0,.slice none 0 0,.int .i64 0] (l0.length - i)).toList) (Nat.le_refl _) (by rw [(dZeros _).1];omega);rw [← dropL_ixs];refine dS_kept (d := k101) (f := f) z101 hT2 Ak.out rfl ACl.out (fun j x c hx hc => ?_);refine Kd.M_step (AM.out j x c hx hc) (fun k hk hl => ?_);have hkg : k ≠ g := fun he => hk.1.2 (by rw [he];rfl)
          exact (setCells_far _ _ k hkg).trans (AK.out.2 k hl hkg)
        · obtain ⟨_,_,_,s4⟩ := setCells_same g (Builtin.zeroCells #[.int .i64 0,.int .i64 0,.slice none 0 0,.int .i64 0] (l0.length - i)).toList (i * 4) wr
          exact ⟨by rw [s4];exact AK.out.1,fun k hk hne => (setCells_far _ _ k (fun he => hne (by rw [he];rfl))).trans (AK.out.2 k hk (fun he => hne (by rw [he];rfl)))⟩
theorem dLow {w W W2 : World} (h : Below w.heap.size w W) (hb : Below W.heap.size W W2) : Below w.heap.size w W2 := dZ h hb
theorem dSets {α : Type} {d : Kd α} {e base g t : Nat} {ok : Nat → Prop} {w W : World} {v : Value} {xs : List α} {cells : Array Value} (h : Kd.S d e w base ok v xs) (hb : w.heap[g]? = some (.cells cells t (0,0))) (ht : ∀ q,q ∈ e :: d.E → q ≠ t) (s : Keep2 w W g g := by repeat (with_reducible first | exact keep2_refl _ _ _ | apply keep2_put1 | apply keep2_put2 | apply keep2_drewN | apply keep2_drew)) : Kd.S d e W base ok v xs :=
  Kd.S_mono (Kd.S_step (Kd.S_types h hb ht) (fun k hk hl => s.2 k hl hk.2 hk.2)) (fun _ hk => hk.1)
set_option maxHeartbeats 8000000 in
set_option maxRecDepth 100000 in
theorem Drop.calls (A0 : Option Addr) (c0 : Nat) (l0 : List S101) (x0 x1 addr size : Int) (ga gs go : Nat) (ok : Nat → Prop) (w0 w : World) (hB : Below w0.heap.size w0 w) (hS : Kd.S k101 101 w w0.heap.size ok (.slice A0 l0.length c0) l0) (hl0 : l0.length ≤ 1048576) (hga : w.heap[ga]? = some (.cells #[.int .i64 addr] 3 (0,0))) (hgs : w.heap[gs]? = some (.cells #[.int .i64 size] 3 (0,0)))
    (hgo : w.heap[go]? = some (.cells #[.int .i64 x0,.int .i64 x1,.slice A0 l0.length c0] 61 (0,0))) (hgb : w0.heap.size ≤ go) :
    Calls Try.prog 86 #[.pointer (some ⟨go,0,none⟩),dV ga gs] w fun e w' => e = .returned (.int .i64 (wrap64 ((l0.length : Int) - ((dropL addr size l0).length : Int)))) ∧ Kd.S k101 101 w' w0.heap.size ok (.slice A0 (dropL addr size l0).length c0) (dropL addr size l0) ∧ w'.heap[go]? = some (.cells #[.int .i64 x0,.int .i64 x1,.slice A0 (dropL addr size l0).length c0] 61 (0,0)) ∧ Below w0.heap.size w0 w' ∧ Kept w w' (fun k_ => k_ = go ∨ some k_ = (Value.slice A0 l0.length c0).ownBlock) := by
  have hu61 := Try.underlying61;have hu59 := Try.underlying59;have hne : ¬ some go = (Value.slice A0 l0.length c0).ownBlock := Kd.S_ne hS hgo (by decide);have AS := aS hS;have AB := aS hB;have Aa := aS hga;have As := aS hgs;have Ago := aS hgo;have Ane := aS hne;have Agb := aS hgb;have Alt := aS (blk_lt hgo);have HB := aS (Below.refl w.heap.size w);clear hS hB hga hgs hgo hne hgb;go_enter Try.func86,Try.ntmps86;go_wp2_with (first | (go_at_call 120;go_loud (refine (DropFunc.calls A0 c0 l0 addr size ga gs gh ok w0 _ (AB.out.trans (below_low' HB1.out AB.out.size)) (Kd.S_below AS.out HB1.out) hl0 ⟨blk_below Aa.out HB1.out,blk_below As.out HB1.out,AH.out⟩).mono ?_;rintro e w8 ⟨rfl,hS8,hb8,hk8⟩;have A8 := aS hS8;have B8 := aS hb8;have K8 := aS hk8;have G8 := aS (blk_kept (blk_below Ago.out HB1.out) hk8 Ane.out);clear hS8 hb8 hk8;refine zz3 G8.out ?_;intros)) | ((with_reducible refine gD 3 rfl ?_);go_loud (refine bY #[dV ga gs] 38 ?_;intro gh hg_ w1 hbx hb;have HGE := aS (Nat.le_of_eq hg_.symm : w.heap.size ≤ gh);have HB1 := aS hb;have AH := aS hbx;clear hg_ hb hbx HB;refine zz3 (blk_below Ago.out HB1.out) ?_;intros)));go_ret;exact ⟨rfl,Kd.S_mono (Kd.S_step (Kd.S_types A8.out G8.out (by decide)) (fun k_ hk_ _ => Below.heap_setCell _ ⟨go,2,none⟩ _ k_ hk_.2)) (fun _ hk => hk.1),oP G8.out,B8.out.setCell (p := ⟨go,2,none⟩) Agb.out _,((Kept.of_below HB1.out _).then_ K8.out (fun k_ hk_ => .inl (.inr hk_))).setCell (p := ⟨go,2,none⟩) (.inl (.inl rfl)) _⟩
def impl_DropAt.f (k : Nat) (a0_0 a0_1 : Int) (l0_2 : List S101) (a1 a2 : Int) : Option (Int × Int × List S101 × Int × Bool) :=
  (impl_GoodStore.f k a0_0 a0_1 l0_2).bind fun t1 => if t1 = true then (impl_isWord.f a1).bind fun t2 => (if t2 = true then (impl_isSize.f a2).bind fun t3 => (if t3 = true then
    (impl_ownStore.f k a0_0 a0_1 l0_2).bind fun b => (if b.2.2.length ≤ 1048576 then some (b.1,b.2.1,dropL a1 a2 b.2.2,wrap64 ((b.2.2.length : Int) - ((dropL a1 a2 b.2.2).length : Int)),true) else none)
    else some (0,0,[],0,false)) else some (0,0,[],0,false)) else some (0,0,[],0,false)
theorem impl_DropAt.mono : ∀ a0 a1 a2 a3 a4 k,LeO (impl_DropAt.f k a0 a1 a2 a3 a4) (impl_DropAt.f (k + 1) a0 a1 a2 a3 a4) := by
  intro a0 a1 a2 a3 a4 k
  unfold impl_DropAt.f
  refine LeO.bind (impl_GoodStore.mono _ _ _ _) (fun t1 => LeO.ite (LeO.bind (LeO.refl _) (fun t2 => LeO.ite (LeO.bind (LeO.refl _) (fun t3 => LeO.ite (LeO.bind (impl_ownStore.mono _ _ _ _) (fun b => LeO.refl _)) (LeO.refl _))) (LeO.refl _))) (LeO.refl _))
set_option maxHeartbeats 8000000 in
set_option maxRecDepth 100000 in
theorem impl_DropAt.calls (k : Nat) (a0_0 : Int) (a0_1 : Int) (A0_2 : Option Addr) (c0_2 : Nat) (l0_2 : List S101) (a1 a2 : Int) (r1 : Int) (r2 : Int) (r3 : List S101) (r4 : Int) (r5 : Bool) (w : World) (hr0_2 : Kd.C k101 w A0_2 l0_2.length l0_2) (hc0_2 : l0_2.length ≤ c0_2) (h : impl_DropAt.f k a0_0 a0_1 l0_2 a1 a2 = some (r1,r2,r3,r4,r5)) :
    Calls Try.prog 43 #[.agg #[.int .i64 a0_0,.int .i64 a0_1,.slice A0_2 l0_2.length c0_2],.int .i64 a1,.int .i64 a2] w fun e w' => ∃ v2_ : Value,e = .returned (.tuple #[.agg #[.int .i64 r1,.int .i64 r2,v2_],.int .i64 r4,.bool r5]) ∧ Kd.S k101 101 w' w.heap.size (fun _ => True) v2_ r3 ∧ Below w.heap.size w w' := by
  have hu61 := Try.underlying61;unfold impl_DropAt.f at h;have HC := aS hr0_2;have Hc := aS hc0_2;clear hr0_2 hc0_2;replace h := bE h;obtain ⟨t1,hG,h⟩ := h;by_cases ht1 : t1 = true;rotate_left
  · rw [if_neg ht1] at h
    replace ht1 := Bool.eq_false_iff.mpr ht1;subst ht1;simp only [Option.some.injEq,Prod.mk.injEq] at h;obtain ⟨rfl,rfl,rfl,rfl,rfl⟩ := h;go_enter Try.func43,Try.ntmps43;have BW := aS (Below.refl w.heap.size w);go_upto_region 1 with (first | ((with_reducible refine gD 6 rfl ?_);go_loud (refine bY #[.int .i64 0,.int .i64 0,.slice none 0 0] 61 ?_;intro g6 hg_ w6 hbx hb;have L6 := aS (Nat.le_trans (below_size BW.out) (Nat.le_of_eq hg_.symm));have n3_6 := aS (Nat.ne_of_lt (by rw [hg_];exact blk_lt K3.out : g3 < g6));have n4_6 := aS (Nat.ne_of_lt (by rw [hg_];exact blk_lt K4.out : g4 < g6));have n5_6 := aS (Nat.ne_of_lt (by rw [hg_];exact blk_lt K5.out : g5 < g6));replace K3 := aS (blk_below K3.out hb);replace K4 := aS (blk_below K4.out hb);replace K5 := aS (blk_below K5.out hb);replace BW := aS (dZ BW.out hb);have K6 := aS hbx;clear hg_ hb hbx;skip)) | ((with_reducible refine gD 5 rfl ?_);go_loud (refine bY #[.int .i64 a2] 3 ?_;intro g5 hg_ w5 hbx hb;have L5 := aS (Nat.le_trans (below_size BW.out) (Nat.le_of_eq hg_.symm));have n3_5 := aS (Nat.ne_of_lt (by rw [hg_];exact blk_lt K3.out : g3 < g5));have n4_5 := aS (Nat.ne_of_lt (by rw [hg_];exact blk_lt K4.out : g4 < g5));replace K3 := aS (blk_below K3.out hb);replace K4 := aS (blk_below K4.out hb);replace BW := aS (dZ BW.out hb);have K5 := aS hbx;clear hg_ hb hbx;skip)) | ((with_reducible refine gD 4 rfl ?_);go_loud (refine bY #[.int .i64 a1] 3 ?_;intro g4 hg_ w4 hbx hb;have L4 := aS (Nat.le_trans (below_size BW.out) (Nat.le_of_eq hg_.symm));have n3_4 := aS (Nat.ne_of_lt (by rw [hg_];exact blk_lt K3.out : g3 < g4));replace K3 := aS (blk_below K3.out hb);replace BW := aS (dZ BW.out hb);have K4 := aS hbx;clear hg_ hb hbx;skip)) | ((with_reducible refine gD 3 rfl ?_);go_loud (refine bY #[.int .i64 a0_0,.int .i64 a0_1,.slice A0_2 l0_2.length c0_2] 61 ?_;intro g3 hg_ w3 hbx hb;have L3 := aS (Nat.le_trans (below_size BW.out) (Nat.le_of_eq hg_.symm));replace BW := aS (dZ BW.out hb);have K3 := aS hbx;clear hg_ hb hbx;skip)));refine zz3 K3.out ?_;intros;have cK4 := (blk_cell K4.out 0).trans rfl;have cK5 := (blk_cell K5.out 0).trans rfl;go_wp2_with (first | (go_at_call 35;go_loud ((with_reducible refine (impl_GoodStore.calls k a0_0 a0_1 _ _ l0_2 _ _ ?s1 Hc.out hG).mono ?_);(case s1 => exact Kd.C_below HC.out BW.out);rintro e w11 ⟨rfl,hb⟩;replace K3 := aS (blk_below K3.out hb);replace K4 := aS (blk_below K4.out hb);replace K5 := aS (blk_below K5.out hb);replace K6 := aS (blk_below K6.out hb);replace BW := aS (dZ BW.out hb);refine zz3 K3.out ?_;intros;have cK4 := (blk_cell K4.out 0).trans rfl;have cK5 := (blk_cell K5.out 0).trans rfl;refine zz3 K6.out ?_;intros;clear hb)));refine bodyPost_ret (results_ctt rfl _ _ g6 61 #[.int .i64 0,.int .i64 0,.slice none 0 0] (0,0) _ rfl (oP K6.out) Try.underlying61 rfl (by kernel_rfl)) rfl ?_;exact ⟨_,oE,Kd.S_nil _ _ _ _ _,by repeat (first | exact BW.out | refine below_set ?_ L6.out | apply pw_below_drewN)⟩
  · subst ht1
    rw [if_pos rfl] at h;replace h := bE h;obtain ⟨t2,h2,h⟩ := h;by_cases ht2 : t2 = true;rotate_left
    · rw [if_neg ht2] at h
      replace ht2 := Bool.eq_false_iff.mpr ht2;subst ht2;simp only [Option.some.injEq,Prod.mk.injEq] at h;obtain ⟨rfl,rfl,rfl,rfl,rfl⟩ := h;go_enter Try.func43,Try.ntmps43;have BW := aS (Below.refl w.heap.size w);go_upto_region 1 with (first | ((with_reducible refine gD 6 rfl ?_);go_loud (refine bY #[.int .i64 0,.int .i64 0,.slice none 0 0] 61 ?_;intro g6 hg_ w6 hbx hb;have L6 := aS (Nat.le_trans (below_size BW.out) (Nat.le_of_eq hg_.symm));have n3_6 := aS (Nat.ne_of_lt (by rw [hg_];exact blk_lt K3.out : g3 < g6));have n4_6 := aS (Nat.ne_of_lt (by rw [hg_];exact blk_lt K4.out : g4 < g6));have n5_6 := aS (Nat.ne_of_lt (by rw [hg_];exact blk_lt K5.out : g5 < g6));replace K3 := aS (blk_below K3.out hb);replace K4 := aS (blk_below K4.out hb);replace K5 := aS (blk_below K5.out hb);replace BW := aS (dZ BW.out hb);have K6 := aS hbx;clear hg_ hb hbx;skip)) | ((with_reducible refine gD 5 rfl ?_);go_loud (refine bY #[.int .i64 a2] 3 ?_;intro g5 hg_ w5 hbx hb;have L5 := aS (Nat.le_trans (below_size BW.out) (Nat.le_of_eq hg_.symm));have n3_5 := aS (Nat.ne_of_lt (by rw [hg_];exact blk_lt K3.out : g3 < g5));have n4_5 := aS (Nat.ne_of_lt (by rw [hg_];exact blk_lt K4.out : g4 < g5));replace K3 := aS (blk_below K3.out hb);replace K4 := aS (blk_below K4.out hb);replace BW := aS (dZ BW.out hb);have K5 := aS hbx;clear hg_ hb hbx;skip)) | ((with_reducible refine gD 4 rfl ?_);go_loud (refine bY #[.int .i64 a1] 3 ?_;intro g4 hg_ w4 hbx hb;have L4 := aS (Nat.le_trans (below_size BW.out) (Nat.le_of_eq hg_.symm));have n3_4 := aS (Nat.ne_of_lt (by rw [hg_];exact blk_lt K3.out : g3 < g4));replace K3 := aS (blk_below K3.out hb);replace BW := aS (dZ BW.out hb);have K4 := aS hbx;clear hg_ hb hbx;skip)) | ((with_reducible refine gD 3 rfl ?_);go_loud (refine bY #[.int .i64 a0_0,.int .i64 a0_1,.slice A0_2 l0_2.length c0_2] 61 ?_;intro g3 hg_ w3 hbx hb;have L3 := aS (Nat.le_trans (below_size BW.out) (Nat.le_of_eq hg_.symm));replace BW := aS (dZ BW.out hb);have K3 := aS hbx;clear hg_ hb hbx;skip)));refine zz3 K3.out ?_;intros;have cK4 := (blk_cell K4.out 0).trans rfl;have cK5 := (blk_cell K5.out 0).trans rfl;go_wp2_with (first | (go_at_call 68;go_loud ((with_reducible refine (impl_isWord.calls a1 _ _ h2).mono ?_);rintro e w12 ⟨rfl,⟨nd,rfl⟩⟩)) | (go_at_call 35;go_loud ((with_reducible refine (impl_GoodStore.calls k a0_0 a0_1 _ _ l0_2 _ _ ?s1 Hc.out hG).mono ?_);(case s1 => exact Kd.C_below HC.out BW.out);rintro e w11 ⟨rfl,hb⟩;replace K3 := aS (blk_below K3.out hb);replace K4 := aS (blk_below K4.out hb);replace K5 := aS (blk_below K5.out hb);replace K6 := aS (blk_below K6.out hb);replace BW := aS (dZ BW.out hb);refine zz3 K3.out ?_;intros;have cK4 := (blk_cell K4.out 0).trans rfl;have cK5 := (blk_cell K5.out 0).trans rfl;refine zz3 K6.out ?_;intros;clear hb)));refine bodyPost_ret (results_ctt rfl _ _ g6 61 #[.int .i64 0,.int .i64 0,.slice none 0 0] (0,0) _ rfl (oP K6.out) Try.underlying61 rfl (by kernel_rfl)) rfl ?_;exact ⟨_,oE,Kd.S_nil _ _ _ _ _,by repeat (first | exact BW.out | refine below_set ?_ L6.out | apply pw_below_drewN)⟩
    · subst ht2
      rw [if_pos rfl] at h;replace h := bE h;obtain ⟨t3,h3,h⟩ := h;by_cases ht3 : t3 = true;rotate_left
      · rw [if_neg ht3] at h
        replace ht3 := Bool.eq_false_iff.mpr ht3;subst ht3;simp only [Option.some.injEq,Prod.mk.injEq] at h;obtain ⟨rfl,rfl,rfl,rfl,rfl⟩ := h;go_enter Try.func43,Try.ntmps43;have BW := aS (Below.refl w.heap.size w);go_upto_region 1 with (first | ((with_reducible refine gD 6 rfl ?_);go_loud (refine bY #[.int .i64 0,.int .i64 0,.slice none 0 0] 61 ?_;intro g6 hg_ w6 hbx hb;have L6 := aS (Nat.le_trans (below_size BW.out) (Nat.le_of_eq hg_.symm));have n3_6 := aS (Nat.ne_of_lt (by rw [hg_];exact blk_lt K3.out : g3 < g6));have n4_6 := aS (Nat.ne_of_lt (by rw [hg_];exact blk_lt K4.out : g4 < g6));have n5_6 := aS (Nat.ne_of_lt (by rw [hg_];exact blk_lt K5.out : g5 < g6));replace K3 := aS (blk_below K3.out hb);replace K4 := aS (blk_below K4.out hb);replace K5 := aS (blk_below K5.out hb);replace BW := aS (dZ BW.out hb);have K6 := aS hbx;clear hg_ hb hbx;skip)) | ((with_reducible refine gD 5 rfl ?_);go_loud (refine bY #[.int .i64 a2] 3 ?_;intro g5 hg_ w5 hbx hb;have L5 := aS (Nat.le_trans (below_size BW.out) (Nat.le_of_eq hg_.symm));have n3_5 := aS (Nat.ne_of_lt (by rw [hg_];exact blk_lt K3.out : g3 < g5));have n4_5 := aS (Nat.ne_of_lt (by rw [hg_];exact blk_lt K4.out : g4 < g5));replace K3 := aS (blk_below K3.out hb);replace K4 := aS (blk_below K4.out hb);replace BW := aS (dZ BW.out hb);have K5 := aS hbx;clear hg_ hb hbx;skip)) | ((with_reducible refine gD 4 rfl ?_);go_loud (refine bY #[.int .i64 a1] 3 ?_;intro g4 hg_ w4 hbx hb;have L4 := aS (Nat.le_trans (below_size BW.out) (Nat.le_of_eq hg_.symm));have n3_4 := aS (Nat.ne_of_lt (by rw [hg_];exact blk_lt K3.out : g3 < g4));replace K3 := aS (blk_below K3.out hb);replace BW := aS (dZ BW.out hb);have K4 := aS hbx;clear hg_ hb hbx;skip)) | ((with_reducible refine gD 3 rfl ?_);go_loud (refine bY #[.int .i64 a0_0,.int .i64 a0_1,.slice A0_2 l0_2.length c0_2] 61 ?_;intro g3 hg_ w3 hbx hb;have L3 := aS (Nat.le_trans (below_size BW.out) (Nat.le_of_eq hg_.symm));replace BW := aS (dZ BW.out hb);have K3 := aS hbx;clear hg_ hb hbx;skip)));refine zz3 K3.out ?_;intros;have cK4 := (blk_cell K4.out 0).trans rfl;have cK5 := (blk_cell K5.out 0).trans rfl;go_wp2_with (first | (go_at_call 69;go_loud ((with_reducible refine (impl_isSize.calls a2 _ _ h3).mono ?_);rintro e w13 ⟨rfl,⟨nd2,rfl⟩⟩)) | (go_at_call 68;go_loud ((with_reducible refine (impl_isWord.calls a1 _ _ h2).mono ?_);rintro e w12 ⟨rfl,⟨nd,rfl⟩⟩)) | (go_at_call 35;go_loud ((with_reducible refine (impl_GoodStore.calls k a0_0 a0_1 _ _ l0_2 _ _ ?s1 Hc.out hG).mono ?_);(case s1 => exact Kd.C_below HC.out BW.out);rintro e w11 ⟨rfl,hb⟩;replace K3 := aS (blk_below K3.out hb);replace K4 := aS (blk_below K4.out hb);replace K5 := aS (blk_below K5.out hb);replace K6 := aS (blk_below K6.out hb);replace BW := aS (dZ BW.out hb);refine zz3 K3.out ?_;intros;have cK4 := (blk_cell K4.out 0).trans rfl;have cK5 := (blk_cell K5.out 0).trans rfl;refine zz3 K6.out ?_;intros;clear hb)));refine bodyPost_ret (results_ctt rfl _ _ g6 61 #[.int .i64 0,.int .i64 0,.slice none 0 0] (0,0) _ rfl (oP K6.out) Try.underlying61 rfl (by kernel_rfl)) rfl ?_;exact ⟨_,oE,Kd.S_nil _ _ _ _ _,by repeat (first | exact BW.out | refine below_set ?_ L6.out | apply pw_below_drewN)⟩
      · subst ht3
        rw [if_pos rfl] at h;replace h := bE h;obtain ⟨⟨b1,b2,lB⟩,hO,h⟩ := h;dsimp only at h;by_cases hl : lB.length ≤ 1048576;rotate_left;{rw [if_neg hl] at h;exact absurd h (by simp)}
        · rw [if_pos hl] at h
          simp only [Option.some.injEq,Prod.mk.injEq] at h;obtain ⟨rfl,rfl,rfl,rfl,rfl⟩ := h;go_enter Try.func43,Try.ntmps43;have BW := aS (Below.refl w.heap.size w);go_upto_region 1 with (first | ((with_reducible refine gD 6 rfl ?_);go_loud (refine bY #[.int .i64 0,.int .i64 0,.slice none 0 0] 61 ?_;intro g6 hg_ w6 hbx hb;have L6 := aS (Nat.le_trans (below_size BW.out) (Nat.le_of_eq hg_.symm));have n3_6 := aS (Nat.ne_of_lt (by rw [hg_];exact blk_lt K3.out : g3 < g6));have n4_6 := aS (Nat.ne_of_lt (by rw [hg_];exact blk_lt K4.out : g4 < g6));have n5_6 := aS (Nat.ne_of_lt (by rw [hg_];exact blk_lt K5.out : g5 < g6));replace K3 := aS (blk_below K3.out hb);replace K4 := aS (blk_below K4.out hb);replace K5 := aS (blk_below K5.out hb);replace BW := aS (dZ BW.out hb);have K6 := aS hbx;clear hg_ hb hbx;skip)) | ((with_reducible refine gD 5 rfl ?_);go_loud (refine bY #[.int .i64 a2] 3 ?_;intro g5 hg_ w5 hbx hb;have L5 := aS (Nat.le_trans (below_size BW.out) (Nat.le_of_eq hg_.symm));have n3_5 := aS (Nat.ne_of_lt (by rw [hg_];exact blk_lt K3.out : g3 < g5));have n4_5 := aS (Nat.ne_of_lt (by rw [hg_];exact blk_lt K4.out : g4 < g5));replace K3 := aS (blk_below K3.out hb);replace K4 := aS (blk_below K4.out hb);replace BW := aS (dZ BW.out hb);have K5 := aS hbx;clear hg_ hb hbx;skip)) | ((with_reducible refine gD 4 rfl ?_);go_loud (refine bY #[.int .i64 a1] 3 ?_;intro g4 hg_ w4 hbx hb;have L4 := aS (Nat.le_trans (below_size BW.out) (Nat.le_of_eq hg_.symm));have n3_4 := aS (Nat.ne_of_lt (by rw [hg_];exact blk_lt K3.out : g3 < g4));replace K3 := aS (blk_below K3.out hb);replace BW := aS (dZ BW.out hb);have K4 := aS hbx;clear hg_ hb hbx;skip)) | ((with_reducible refine gD 3 rfl ?_);go_loud (refine bY #[.int .i64 a0_0,.int .i64 a0_1,.slice A0_2 l0_2.length c0_2] 61 ?_;intro g3 hg_ w3 hbx hb;have L3 := aS (Nat.le_trans (below_size BW.out) (Nat.le_of_eq hg_.symm));replace BW := aS (dZ BW.out hb);have K3 := aS hbx;clear hg_ hb hbx;skip)));refine zz3 K3.out ?_;intros;have cK4 := (blk_cell K4.out 0).trans rfl;have cK5 := (blk_cell K5.out 0).trans rfl;go_upto_region 3 with (first | (go_at_call 69;go_loud ((with_reducible refine (impl_isSize.calls a2 _ _ h3).mono ?_);rintro e w13 ⟨rfl,⟨nd2,rfl⟩⟩)) | (go_at_call 68;go_loud ((with_reducible refine (impl_isWord.calls a1 _ _ h2).mono ?_);rintro e w12 ⟨rfl,⟨nd,rfl⟩⟩)) | (go_at_call 35;go_loud ((with_reducible refine (impl_GoodStore.calls k a0_0 a0_1 _ _ l0_2 _ _ ?s1 Hc.out hG).mono ?_);(case s1 => exact Kd.C_below HC.out BW.out);rintro e w11 ⟨rfl,hb⟩;replace K3 := aS (blk_below K3.out hb);replace K4 := aS (blk_below K4.out hb);replace K5 := aS (blk_below K5.out hb);replace K6 := aS (blk_below K6.out hb);replace BW := aS (dZ BW.out hb);refine zz3 K3.out ?_;intros;have cK4 := (blk_cell K4.out 0).trans rfl;have cK5 := (blk_cell K5.out 0).trans rfl;refine zz3 K6.out ?_;intros;clear hb)));refine dGen (fun W => Aside0 (Below w.heap.size w W) ∧ Aside0 (W.heap[g3]? = some (.cells #[.int .i64 a0_0,.int .i64 a0_1,.slice A0_2 l0_2.length c0_2] 61 (0,0))) ∧ Aside0 (W.heap[g4]? = some (.cells #[.int .i64 a1] 3 (0,0))) ∧ Aside0 (W.heap[g5]? = some (.cells #[.int .i64 a2] 3 (0,0))) ∧ Aside0 (W.heap[g6]? = some (.cells #[.int .i64 0,.int .i64 0,.slice none 0 0] 61 (0,0)))) ⟨⟨by repeat (first | exact BW.out | apply pw_below_drewN)⟩,⟨oP K3.out⟩,⟨oP K4.out⟩,⟨oP K5.out⟩,⟨oP K6.out⟩⟩ ?_;clear BW K3 K4 K5 K6;intro w13 ⟨BW,K3,K4,K5,K6⟩;have BV := BW;refine zz3 K3.out ?_;intros;go_upto_region 4 with (first | ((with_reducible refine gD 9 rfl ?_);go_loud (refine bY #[.int .i64 0,.int .i64 0,.slice none 0 0] 61 ?_;intro g9 hg_ w15 hbx hb;have L9 := aS (Nat.le_trans (below_size HB9.out) (Nat.le_of_eq hg_.symm));have n3_9 := aS (Nat.ne_of_lt (by rw [hg_];exact blk_lt K3.out : g3 < g9));have n4_9 := aS (Nat.ne_of_lt (by rw [hg_];exact blk_lt K4.out : g4 < g9));have n5_9 := aS (Nat.ne_of_lt (by rw [hg_];exact blk_lt K5.out : g5 < g9));have n6_9 := aS (Nat.ne_of_lt (by rw [hg_];exact blk_lt K6.out : g6 < g9));replace K3 := aS (blk_below K3.out hb);replace K4 := aS (blk_below K4.out hb);replace K5 := aS (blk_below K5.out hb);replace K6 := aS (blk_below K6.out hb);replace BW := aS (dZ BW.out hb);replace HB9 := aS (dZ HB9.out hb);replace HS9 := aS (Kd.S_below HS9.out hb);have K9 := aS hbx;clear hg_ hb hbx;refine zz3 K9.out ?_;intros)) | (go_at_call 81;go_loud ((with_reducible refine (impl_ownStore.calls k a0_0 a0_1 _ _ l0_2 b1 b2 lB _ ?s1 Hc.out hO).mono ?_);(case s1 => exact Kd.C_below HC.out BW.out);rintro e w14 ⟨vB,rfl,hS,hb⟩;replace K3 := aS (blk_below K3.out hb);replace K4 := aS (blk_below K4.out hb);replace K5 := aS (blk_below K5.out hb);replace K6 := aS (blk_below K6.out hb);replace BW := aS (dZ BW.out hb);have HB9 := aS hb;have HS9 := aS hS;obtain ⟨AB,cB,rfl⟩ := Kd.S_slice hS;clear hS hb)));refine dGen (fun W => Aside0 (W.heap[g4]? = some (.cells #[.int .i64 a1] 3 (0,0))) ∧ Aside0 (W.heap[g5]? = some (.cells #[.int .i64 a2] 3 (0,0))) ∧ Aside0 (W.heap[g6]? = some (.cells #[.int .i64 0,.int .i64 0,.slice none 0 0] 61 (0,0))) ∧ Aside0 (W.heap[g9]? = some (.cells #[.int .i64 b1,.int .i64 b2,.slice AB lB.length cB] 61 (0,0))) ∧ Aside0 (Below w13.heap.size w13 W) ∧ Aside0 (Kd.S k101 101 W w13.heap.size (fun _ => True) (.slice AB lB.length cB) lB)) ⟨⟨oP K4.out⟩,⟨oP K5.out⟩,⟨oP K6.out⟩,⟨oP K9.out⟩,⟨by repeat (first | exact HB9.out | refine below_set ?_ L9.out | apply pw_below_drewN)⟩,⟨dSets HS9.out K9.out (by decide)⟩⟩ ?_;clear K3 K4 K5 K6 K9 HB9 HS9;intro w16 ⟨K4,K5,K6,K9,HB9,HS9⟩;have Ne6 := aS (Kd.S_ne HS9.out K6.out (by decide));refine zz3 K9.out ?_;intros;go_wp2_with (first | (go_at_call 86;go_loud ((with_reducible refine (Drop.calls AB cB lB b1 b2 a1 a2 g4 g5 g9 (fun _ => True) w13 _ HB9.out HS9.out hl K4.out K5.out K9.out L9.out).mono ?_);rintro e w20 ⟨rfl,hS,hg,hb,hk⟩;have HS20 := aS hS;have HB20 := aS hb;have K620 := aS (blk_kept K6.out hk (fun h_ => h_.elim n6_9.out (fun h2_ => Ne6.out h2_)));refine zz3 hg ?_;intros;refine zz3 K620.out ?_;intros;clear hS hg hb hk)));refine bodyPost_ret (results_ctt rfl _ _ g6 61 #[.int .i64 b1,.int .i64 b2,.slice AB (dropL a1 a2 lB).length cB] (0,0) _ rfl (oP K620.out) Try.underlying61 rfl (by kernel_rfl)) rfl ?_;exact ⟨_,oE,dSets (Kd.S_lower HS20.out (below_size BV.out)) K620.out (by decide),by repeat (first | exact dLow BV.out HB20.out | refine below_set ?_ L6.out | apply pw_below_drewN)⟩

end Go.Proofs.Ytjnifnhpnccpcaa.H
