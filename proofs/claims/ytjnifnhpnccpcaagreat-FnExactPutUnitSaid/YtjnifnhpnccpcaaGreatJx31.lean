-- Made by this session's program gprint.py out of the translation. Not trusted: Lean checks it.
import Derived.Test.YtjnifnhpnccpcaaGreatJx0
import Derived.Shelf.Spec.SlicesInsertGrow
import Derived.Test.YtjnifnhpnccpcaaGreatJx15
import Derived.Test.YtjnifnhpnccpcaaGreatJx24
import Derived.Test.YtjnifnhpnccpcaaGreatJx27
import Derived.Test.YtjnifnhpnccpcaaGreatJx28
import Derived.Test.YtjnifnhpnccpcaaGreatJx29
namespace Go.Proofs.YtjnifnhpnccpcaaGreat.J
open Go.RowKit Go.Proofs.YtjnifnhpnccpcaaGreatW.PrintWords Go.Proofs.YtjnifnhpnccpcaaGreatW.PrintLast Go.Proofs.YtjnifnhpnccpcaaGreatW.PrintMore
attribute [local go_sem] max2_int min2_int max_two min_two max_three min_three max_four min_four
set_option linter.unusedVariables false
set_option linter.unusedSimpArgs false
def okR (rows : List (List Value)) : Prop:=∀ r ∈ rows,r.length = 4 ∧ ∀ u ∈ r,u.oneCell' = true
theorem okR.take {rows : List (List Value)} (h : okR rows) (j : Nat) : okR (rows.take j):=fun r hr => h r (List.mem_of_mem_take hr)
theorem okR.drop {rows : List (List Value)} (h : okR rows) (j : Nat) : okR (rows.drop j):=fun r hr => h r (List.mem_of_mem_drop hr)
theorem okR.append {a b : List (List Value)} (h : okR a) (k : okR b) : okR (a ++ b):=fun r hr => (List.mem_append.1 hr).elim (h r) (k r)
theorem okR.one {rows : List (List Value)} (h : okR rows) : ∀ u ∈ rows.flatten,u.oneCell' = true:=fun u hu => by
  obtain ⟨r,hr,hu⟩:=List.mem_flatten.1 hu
  exact (h r hr).2 u hu
theorem okR.len : ∀ {rows : List (List Value)},okR rows → rows.flatten.length = rows.length * 4
  | [],_ => rfl
  | r :: rs,h => by
    rw [List.flatten_cons,List.length_append,(h r List.mem_cons_self).1,okR.len (fun x hx => h x (List.mem_cons_of_mem _ hx)),List.length_cons]
    omega
theorem okR.ftake : ∀ {rows : List (List Value)} (_ : okR rows) (j : Nat),(rows.take j).flatten = rows.flatten.take (j * 4)
  | [],_,j => by simp
  | r :: rs,h,0 => by simp
  | r :: rs,h,j + 1 => by
    have hr:=(h r List.mem_cons_self).1
    rw [List.take_succ_cons,List.flatten_cons,List.flatten_cons,okR.ftake (fun x hx => h x (List.mem_cons_of_mem _ hx)) j,List.take_append,List.take_of_length_le (show r.length ≤ (j + 1) * 4 by omega),hr,show (j + 1) * 4 - 4 = j * 4 by omega]
theorem okR.fdrop : ∀ {rows : List (List Value)} (_ : okR rows) (j : Nat),(rows.drop j).flatten = rows.flatten.drop (j * 4)
  | [],_,j => by simp
  | r :: rs,h,0 => by simp
  | r :: rs,h,j + 1 => by
    have hr:=(h r List.mem_cons_self).1
    rw [List.drop_succ_cons,List.flatten_cons,okR.fdrop (fun x hx => h x (List.mem_cons_of_mem _ hx)) j,List.drop_append,List.drop_of_length_le (show r.length ≤ (j + 1) * 4 by omega),hr,List.nil_append,show (j + 1) * 4 - 4 = j * 4 by omega]
theorem flat_of : ∀ (rows : List (List Value)) (inner : List Value),inner.length = rows.length * 4 → (∀ j p,rows[j]? = some p → (inner.drop (j * 4)).take 4 = p) → inner = rows.flatten
  | [],inner,h,_ => List.eq_nil_of_length_eq_zero (by simpa using h)
  | r :: rs,inner,h,hc => by
    have h0:=hc 0 r rfl
    rw [Nat.zero_mul,List.drop_zero] at h0
    rw [List.flatten_cons,← h0,← flat_of rs (inner.drop 4) (by rw [List.length_drop,h,List.length_cons];omega) (fun j p hp => by
      rw [List.drop_drop,show 4 + j * 4 = (j + 1) * 4 by omega]
      exact hc (j + 1) p (by simpa using hp))]
    exact (List.take_append_drop 4 inner).symm
def rF (W : World) (e b g c : Nat) (rows : List (List Value)) : Prop:=rows.length ≤ c ∧ c ≤ maxLen ∧ b ≤ g ∧ okR rows ∧ ∃ cur,W.heap[g]? = some (.cells cur e (0,0)) ∧ cur.size = c * 4 ∧ cur.toList.take (rows.length * 4) = rows.flatten
section
variable {e b g n c : Nat} {ok : Nat → Prop} {W : World} {rows : List (List Value)}
theorem rF_of (h : (Kd.raw 4).R e W b ok (.slice (some ⟨g,0,none⟩) n c) rows) : n = rows.length ∧ rF W e b g c rows:=by
  obtain ⟨_,inner,⟨ho1,ho2⟩,hr⟩:=h
  rcases ho2 with ⟨hv,_⟩ | ⟨g',cap',cur,hv,hb,hh,hnc,hcm,hcs,ht⟩
  · cases hv
  injection hv with ha hn hc
  injection ha with ha
  injection ha with hg
  subst hg;subst hc
  have hf : inner = rows.flatten:=flat_of rows inner hr.1 (fun j p hp => (hr.2 j p hp).1)
  refine ⟨hn,hnc,hcm,hb,fun r hr2 => ?_,cur,hh,hcs,by rw [← hf];exact ht⟩
  obtain ⟨j,hj⟩:=List.getElem?_of_mem hr2
  obtain ⟨e1,e2,e3⟩:=hr.2 j r hj
  exact ⟨e1 ▸ e2,e1 ▸ e3⟩
theorem rF_raw (h : rF W e b g c rows) (A : Option Addr) (hA : A = some ⟨g,0,none⟩) (hn : n = rows.length) : (Kd.raw 4).R e W b (fun k => some k = (Value.slice A n c).ownBlock) (.slice A n c) rows:=by
  subst hA
  subst hn
  obtain ⟨h1,h2,h3,h4,cur,h5,h6,h7⟩:=h
  refine ⟨fun k hk => hk.symm,rows.flatten,⟨h4.len,.inr ⟨g,c,cur,rfl,h3,h5,h1,h2,h6,h7⟩⟩,h4.len,fun j p hp => ?_⟩
  have hc : (rows.flatten.drop (j * 4)).take 4 = p:=by
    rw [← h4.fdrop,← Nat.one_mul 4,← (h4.drop j).ftake]
    rw [List.drop_eq_getElem_cons (List.getElem?_eq_some_iff.1 hp).1,List.take_succ_cons,List.take_zero,List.flatten_cons,List.flatten_nil,List.append_nil]
    exact (List.getElem?_eq_some_iff.1 hp).2
  have hm:=h4 p (List.mem_of_getElem? hp)
  exact ⟨hc,hc.symm ▸ hm.1,hc.symm ▸ hm.2⟩
theorem rF.step {W2 : World} (h : rF W e b g c rows) (hk : W2.heap[g]? = W.heap[g]?) : rF W2 e b g c rows:=by
  obtain ⟨h1,h2,h3,h4,cur,h5,h6,h7⟩:=h
  exact ⟨h1,h2,h3,h4,cur,hk.trans h5,h6,h7⟩
theorem rF.cell (h : rF W e b g c rows) {j : Nat} {v : Value} (hv : rows.flatten[j]? = some v) : W.cell? ⟨g,j,none⟩ = some v:=by
  obtain ⟨h1,h2,h3,h4,cur,h5,h6,h7⟩:=h
  have hj : j < rows.length * 4:=by rw [← h4.len];exact (List.getElem?_eq_some_iff.1 hv).1
  rw [blk_cell h5,← Array.getElem?_toList,← hv,← h7,List.getElem?_take,if_pos hj]
theorem rF.some (h : rF W e b g c rows) {j : Nat} (hj : j < c * 4) : (W.cell? ⟨g,j,none⟩).isSome = true:=by
  obtain ⟨h1,h2,h3,h4,cur,h5,h6,h7⟩:=h
  rw [blk_cell h5,Array.getElem?_eq_getElem (by omega)];rfl
theorem rF.froz (h : rF W e b g c rows) (j : Nat) : W.frozen? ⟨g,j,none⟩ = false:=by
  obtain ⟨h1,h2,h3,h4,cur,h5,h6,h7⟩:=h
  exact blk_frozen h5 j
theorem rF.write (h : rF W e b g c rows) {j : Nat} {news : List (List Value)} (hn : okR news) (hj : j ≤ rows.length) (hc : j + news.length ≤ c) :
    rF (W.setCells g (j * 4) news.flatten) e b g c (rows.take j ++ news ++ rows.drop (j + news.length)):=by
  obtain ⟨h1,h2,h3,h4,cur,h5,h6,h7⟩:=h
  have hfl:=hn.len
  obtain ⟨cur',e3,e4,e5⟩:=setCells_row news.flatten (j * 4) W cur h5 (by rw [hfl,h6];omega)
  have hlen : (rows.take j ++ news ++ rows.drop (j + news.length)).length = max rows.length (j + news.length):=by simp only [List.length_append,List.length_take,List.length_drop];omega
  refine ⟨by rw [hlen];omega,h2,h3,((h4.take j).append hn).append (h4.drop _),cur',e3,e4.trans h6,?_⟩
  have hcl : cur.toList.length = c * 4:=by rw [Array.length_toList,h6]
  rw [e5,hlen,List.flatten_append,List.flatten_append,h4.ftake,h4.fdrop,← h7,hfl]
  apply List.ext_getElem?
  intro i
  simp only [List.getElem?_take,List.getElem?_append,List.getElem?_drop,List.length_append,List.length_take,List.length_drop,hfl,hcl]
  repeat' split
  all_goals first | rfl | omega | (congr 1;omega) | (symm;rw [List.getElem?_eq_none_iff];omega) | (rw [List.getElem?_eq_none_iff];omega) | skip
end
theorem dlo {b b' : Nat} {w W : World} (h : Below b w W) (hl : b' ≤ b) : Below b' w W:=⟨h.os,h.tape,h.output,h.size,fun i hi => h.block i (Nat.lt_of_lt_of_le hi hl)⟩
section
variable {α : Type} {d : Kd α} {e : Nat} {base : Nat} {ok : Nat → Prop} {W : World} {v : Value} {xs : List α} {rows : List (List Value)}
theorem dS_raw (h : Kd.S d e W base ok v xs) : ∃ (C : List (List Value)) (f : Nat → Nat),C.length = xs.length ∧ (∀ k,v.ownBlock = some k → ok k) ∧ (Kd.raw d.sz).R e W base (fun k => some k = v.ownBlock) v C ∧ ∀ j x c,xs[j]? = some x → C[j]? = some c → d.M W base (fun k => (ok k ∧ some k ≠ v.ownBlock) ∧ f k = j) x c:=by
  obtain ⟨f,h0,inner,ho,hr⟩:=h
  rw [List.length_zipIdx] at ho
  have hr2:=Kd.reps_raw hr (fun x c hp => ⟨d.K_len (d.K_of_M hp),d.K_one (d.K_of_M hp)⟩)
  rw [List.length_zipIdx] at hr2
  refine ⟨Kd.chunks d.sz xs.length inner,f,Kd.chunks_length _ _ _,h0,⟨fun k hk => hk.symm,inner,by rw [Kd.chunks_length];exact ho,hr2⟩,fun j x c hx hc => ?_⟩
  rw [Kd.chunks_get hc]
  exact hr.2 j (x,j) (Kd.zip_at hx)
theorem dS_of (hraw : (Kd.raw d.sz).R e W base (fun k => some k = v.ownBlock) v rows) (hok : ∀ k,v.ownBlock = some k → ok k) (okj : Nat → Nat → Prop) (hap : ∀ i j k,okj i k → okj j k → i = j) (hsub : ∀ j k,okj j k → ok k ∧ some k ≠ v.ownBlock) (hl : rows.length = xs.length)
    (hM : ∀ j x c,xs[j]? = some x → rows[j]? = some c → d.M W base (okj j) x c) : Kd.S d e W base ok v xs:=by
  obtain ⟨_,inner,ho,hr⟩:=hraw
  obtain ⟨f,hf⟩:=Kd.reps_tag (d:=d) (w:=W) (base:=base) (ok:=fun k => ok k ∧ some k ≠ v.ownBlock) (xs:=xs) (inner:=inner) okj hap hsub (by rw [← hl];exact hr.1) (fun j x hx => by
    have hj : j < rows.length:=by rw [hl];exact (List.getElem?_eq_some_iff.1 hx).1
    have hc : (inner.drop (j * d.sz)).take d.sz = rows[j]:=(hr.2 j _ (List.getElem?_eq_getElem hj)).1
    rw [hc]
    exact hM j x _ hx (List.getElem?_eq_getElem hj))
  exact ⟨f,hok,inner,by rw [List.length_zipIdx,← hl];exact ho,hf⟩
end
theorem dBelow {b : Nat} {w W : World} (h : Below b w W) {g : Nat} (hg : b ≤ g) (o : Nat) (vs : List Value) : Below b w (W.setCells g o vs):=by
  obtain ⟨s1,s2,s3,s4⟩:=setCells_same g vs o W
  exact ⟨s1.trans h.os,s2.trans h.tape,s3.trans h.output,by rw [s4];exact h.size,fun k hk => (setCells_far vs o k (by omega)).trans (h.block k hk)⟩
theorem dZeros (n : Nat) : (Builtin.zeroCells #[.int .i64 0,.int .i64 0,.slice none 0 0,.int .i64 0] n).toList.length = n * 4 ∧ ∀ u ∈ (Builtin.zeroCells #[.int .i64 0,.int .i64 0,.slice none 0 0,.int .i64 0] n).toList,u.oneCell' = true:=by
  refine ⟨by simp [Builtin.zeroCells],fun u hu => ?_⟩
  simp only [Builtin.zeroCells,Array.toList_map,List.mem_map] at hu
  obtain ⟨i,_,rfl⟩:=hu
  have h4 : i % 4 < 4:=Nat.mod_lt _ (by decide)
  show (#[Value.int .i64 0,.int .i64 0,.slice none 0 0,.int .i64 0][i % 4]!).oneCell' = true
  rcases (by omega : i % 4 = 0 ∨ i % 4 = 1 ∨ i % 4 = 2 ∨ i % 4 = 3) with h | h | h | h <;> rw [h] <;> rfl
theorem dClear {P : Program} (w : World) (t e ty : TypeId) (z : Value) (ht : P.underlying t = some (.slice e)) (hv : ∀ w,(zeroValue e).run P w = .ok z w) (b o n c : Nat) (hn : 0 < n) (h1 : ∀ u ∈ (Builtin.zeroCells z.cells n).toList,u.oneCell' = true)
    (hc : ∀ j,j < (Builtin.zeroCells z.cells n).toList.length → (w.cell? ⟨b,o + j,none⟩).isSome = true) (hf : ∀ j,j < (Builtin.zeroCells z.cells n).toList.length → w.frozen? ⟨b,o + j,none⟩ = false) :
    (Builtin.clear_ #[t] ty #[.slice (some ⟨b,o,none⟩) n c]).run P w = .ok (.tuple #[]) (w.setCells b o (Builtin.zeroCells z.cells n).toList):=by
  have hst:=run_storeCells_cells (P:=P) b o (Builtin.zeroCells z.cells n).toList 0 w (by simpa using hc) (by simpa using hf) h1
  simp only [Nat.add_zero] at hst
  obtain ⟨m,rfl⟩ : ∃ m,n = m + 1:=⟨n - 1,by omega⟩
  simp [Builtin.clear_,run_underlying ht,hv,hst]
theorem dKept {g : Nat} {w W : World} (h : Kept w W (fun k_ => some k_ = some g)) (o : Nat) (vs : List Value) : Kept w (W.setCells g o vs) (fun k_ => some k_ = some g):=by
  obtain ⟨_,_,_,s4⟩:=setCells_same g vs o W
  exact ⟨by rw [s4];exact h.1,fun k hk hne => (setCells_far vs o k (fun he => hne (by rw [he]))).trans (h.2 k hk hne)⟩
theorem dTailS {α : Type} {d : Kd α} {e base g i c : Nat} {ok : Nat → Prop} {W : World} {xs : List α} (h : Kd.S d e W base ok (.slice (some ⟨g,0,none⟩) i c) xs) {o : Nat} {vs : List Value} (h1 : i * d.sz ≤ o) (h2 : o + vs.length ≤ c * d.sz) :
    Kd.S d e (W.setCells g o vs) base ok (.slice (some ⟨g,0,none⟩) i c) xs:=by
  obtain ⟨f,hok,inner,⟨ho1,ho2⟩,hr⟩:=h
  have hgo : (Value.slice (some ⟨g,0,none⟩) i c).ownBlock = some g:=rfl
  rcases ho2 with ⟨hv,_⟩ | ⟨g',cap',cur,hv,hb,hh,hnc,hcm,hcs,ht⟩
  · cases hv
  injection hv with ha hn hc
  injection ha with ha
  injection ha with hg
  subst hg;subst hc
  obtain ⟨cur',h3,h4,h5⟩:=setCells_row vs o W cur hh (by rw [hcs];exact h2)
  refine ⟨f,hok,inner,⟨ho1,.inr ⟨g,c,cur',by rw [hn],hb,h3,hnc,hcm,h4.trans hcs,?_⟩⟩,hr.1,fun j p hp => ?_⟩
  · have hm : xs.zipIdx.length * d.sz ≤ o:=by rw [← hn];exact h1
    have hol : o ≤ cur.toList.length:=by rw [Array.length_toList,hcs];show o ≤ c * d.sz;omega
    rw [h5,List.append_assoc,List.take_append_of_le_length (by rw [List.length_take];show xs.zipIdx.length * d.sz ≤ _;omega),List.take_take]
    refine Eq.trans ?_ ht
    congr 1
    exact Nat.min_eq_left hm
  · exact Kd.M_step (hr.2 j p hp) (fun k hk _ => setCells_far vs o k (fun he => hk.2 (by rw [he];rfl)))
set_option maxHeartbeats 1600000 in
set_option maxRecDepth 100000 in
theorem Del.calls (A0 : Option Addr) (c0 : Nat) (l0 : List S60) (k0 : Nat) (ok : Nat → Prop) (w0 w : World) (hB : Below w0.heap.size w0 w) (hS : Kd.S k60 60 w w0.heap.size ok (.slice A0 l0.length c0) l0) (hl0 : l0.length ≤ 1048576) (hk : k0 < l0.length) :
    Calls Tryz.prog 54 #[.slice A0 l0.length c0,.int .i64 (k0 : Int),.int .i64 ((k0 + 1 : Nat) : Int)] w fun e w' => e = .returned (.slice A0 (l0.length - 1) c0) ∧ Kd.S k60 60 w' w0.heap.size ok (.slice A0 (l0.length - 1) c0) (l0.eraseIdx k0) ∧ Below w0.heap.size w0 w' ∧ Kept w w' (fun k_ => some k_ = (Value.slice A0 l0.length c0).ownBlock):=by
  have hu77:=Tryz.underlying60
  have hu59:=Tryz.underlying30
  obtain ⟨g,cap,hv,hgb,hgs,cur,hgc⟩:=Kd.S_form hS (by omega)
  injection hv with hv1 hv2 hv3
  subst hv1
  subst hv3
  obtain ⟨_,hc0,_⟩:=Kd.S_reads' hS
  have HS:=aS hS
  have HB:=aS hB
  have Ag:=aS hgb
  have Ags:=aS hgs
  have Awz:=aS (below_size hB)
  have p0 : (0 ≤ (k0 : Int)) = True:=eq_true (by omega)
  have p1 : ((k0 : Int) ≤ ((k0 + 1 : Nat) : Int)) = True:=eq_true (by omega)
  have p2 : (((k0 + 1 : Nat) : Int) ≤ (l0.length : Int)) = True:=eq_true (by omega)
  have p3 : ((l0.length : Int) ≤ (c0 : Int)) = True:=eq_true (by omega)
  have p4 : (((k0 + 1 : Nat) : Int) ≤ (c0 : Int)) = True:=eq_true (by omega)
  have p5 : (0 ≤ ((k0 + 1 : Nat) : Int)) = True:=eq_true (by omega)
  have p6 : ((k0 : Int) ≤ (c0 : Int)) = True:=eq_true (by omega)
  have hne : ((k0 : Int) == ((k0 + 1 : Nat) : Int)) = false:=beq_eq_false_iff_ne.2 (by omega)
  clear hS hB hgc hgb hgs
  generalize hj : ((k0 + 1 : Nat) : Int) = jj at p1 p2 p4 p5 hne ⊢
  have hjn : jj.toNat = k0 + 1:=by omega
  have Aj:=aS hj
  clear hj
  go_enter Tryz.func54,Tryz.ntmps54
  go_upto_region 5 with (fail)
  refine start_ (n:=8) (S:=fun _ => True) (ds:=[]) (bA 8 0) (by kernel_rfl) rfl rfl trivial (fun hHeld => ?_)
  have HS1:=aS (Kd.S_drew HS.out)
  have HB1:=aS (below_drew1 HB.out)
  have HK1:=aS (Kept.of_below (below_drew1 (Below.refl w.heap.size w)) (fun k_ => some k_ = some g))
  have Awz1:=aS (show w0.heap.size ≤ w.drew.heap.size from Awz.out)
  clear HS HB Awz
  generalize w.drew = w1 at HS1 HB1 HK1 Awz1 ⊢
  by_cases hcc : c0 = k0 + 1
  · have hcc2 : (c0 = k0 + 1) = True:=eq_true hcc
    replace hcc:=aS hcc
    refine pB 0 20 1 ?_
    refine pB 1 21 3 ?_
    refine pB 2 22 7 ?_
    refine pB 3 23 15 ?_
    refine pB 4 24 31 ?_
    refine pB 5 25 63 ?_
    refine oneB 6 26 127 fun K hK => ?_
    refine Kd.S_delete_step k60 (w0:=w0) w0.heap.size (by rfl) (.tmp 22) (.tmp 25) 30 60 rfl Tryz.underlying30 (by kernel_rfl) rfl rfl (by first | rw [if_pos hcc.out] | (rw [if_neg hcc.out];show some _ = some (Addr.add _ _);rw [Addr.add_lit,Nat.zero_add];rfl)) (by have:=hcc.out;omega) HS1.out hk HB1.out Awz1.out ?_
    intro w2 hS2 hB2 hg2
    refine hK.out _ _ trivial (fun hHeld => ?_)
    clear hK K
    refine norm_ (a':=?_) ?_ ?_
    rotate_left
    · show Act.put _ (some 26) _ = _;go_frame;(try simp only [i64_w,i32_w]);rfl
    refine pB 7 0 255 ?_
    refine done_ (by kernel_rfl) ?_
    have hS3:=aS hS2
    have hB3:=aS hB2
    have hK3:=aS (Kept.of_grown hg2 HK1.out (fun k_ hk_ => .inl hk_.symm))
    have hcur:=Kd.S_typed hS2 g rfl
    clear hHeld hS2 hB2 hg2 HS1 HB1 HK1
    obtain ⟨m,hm⟩ : ∃ m,m = l0.length - 1:=⟨_,rfl⟩
    rw [← hm] at hS3 ⊢
    have Am:=aS (show l0.length = m + 1 by omega)
    have p7 : ((m : Int) ≤ (l0.length : Int)) = True:=eq_true (by omega)
    have p8 : ((m : Int) ≤ (c0 : Int)) = True:=eq_true (by omega)
    have p9 : (c0 = m) = False:=eq_false (by omega)
    clear hm
    obtain ⟨curw,hcw⟩:=hcur
    obtain ⟨C,f,hCl,hok,hraw,_⟩:=dS_raw hS3.out
    have hrF:=(rF_of hraw).2
    have hcl : ∀ ty,(Builtin.clear_ #[30] ty #[.slice (some ⟨g,m * 4,none⟩) (l0.length - m) (c0 - m)]).run Tryz.prog w2 = .ok (.tuple #[]) (w2.setCells g (m * 4) (Builtin.zeroCells #[.int .i64 0,.int .i64 0,.slice none 0 0,.int .i64 0] (l0.length - m)).toList):=fun ty =>
      dClear w2 30 60 ty (.agg #[.int .i64 0,.int .i64 0,.slice none 0 0,.int .i64 0]) hu59 (fun w => rfl) g (m * 4) (l0.length - m) (c0 - m) (by have:=Am.out;omega) (dZeros _).2 (fun j hj => hrF.some (by have : j < (l0.length - m) * 4:=Nat.lt_of_lt_of_eq hj (dZeros _).1;have:=Am.out;omega)) (fun j hj => hrF.froz _)
    clear hraw hrF hok hCl hcw
    go_wp2
    go_ret
    rw [show l0.length - 1 = m from by have:=Am.out;omega]
    exact ⟨rfl,dTailS hS3.out (Nat.le_refl _) (by rw [(dZeros _).1];show m * 4 + (l0.length - m) * 4 ≤ c0 * 4;have:=Am.out;omega),dBelow hB3.out Ag.out _ _,dKept hK3.out _ _⟩
  · have hcc2 : (c0 = k0 + 1) = False:=eq_false hcc
    replace hcc:=aS hcc
    refine pB 0 20 1 ?_
    refine pB 1 21 3 ?_
    refine pB 2 22 7 ?_
    refine pB 3 23 15 ?_
    refine pB 4 24 31 ?_
    refine pB 5 25 63 ?_
    refine oneB 6 26 127 fun K hK => ?_
    refine Kd.S_delete_step k60 (w0:=w0) w0.heap.size (by rfl) (.tmp 22) (.tmp 25) 30 60 rfl Tryz.underlying30 (by kernel_rfl) rfl rfl (by first | rw [if_pos hcc.out] | (rw [if_neg hcc.out];show some _ = some (Addr.add _ _);rw [Addr.add_lit,Nat.zero_add];rfl)) rfl HS1.out hk HB1.out Awz1.out ?_
    intro w2 hS2 hB2 hg2
    refine hK.out _ _ trivial (fun hHeld => ?_)
    clear hK K
    refine norm_ (a':=?_) ?_ ?_
    rotate_left
    · show Act.put _ (some 26) _ = _;go_frame;(try simp only [i64_w,i32_w]);rfl
    refine pB 7 0 255 ?_
    refine done_ (by kernel_rfl) ?_
    have hS3:=aS hS2
    have hB3:=aS hB2
    have hK3:=aS (Kept.of_grown hg2 HK1.out (fun k_ hk_ => .inl hk_.symm))
    have hcur:=Kd.S_typed hS2 g rfl
    clear hHeld hS2 hB2 hg2 HS1 HB1 HK1
    obtain ⟨m,hm⟩ : ∃ m,m = l0.length - 1:=⟨_,rfl⟩
    rw [← hm] at hS3 ⊢
    have Am:=aS (show l0.length = m + 1 by omega)
    have p7 : ((m : Int) ≤ (l0.length : Int)) = True:=eq_true (by omega)
    have p8 : ((m : Int) ≤ (c0 : Int)) = True:=eq_true (by omega)
    have p9 : (c0 = m) = False:=eq_false (by omega)
    clear hm
    obtain ⟨curw,hcw⟩:=hcur
    obtain ⟨C,f,hCl,hok,hraw,_⟩:=dS_raw hS3.out
    have hrF:=(rF_of hraw).2
    have hcl : ∀ ty,(Builtin.clear_ #[30] ty #[.slice (some ⟨g,m * 4,none⟩) (l0.length - m) (c0 - m)]).run Tryz.prog w2 = .ok (.tuple #[]) (w2.setCells g (m * 4) (Builtin.zeroCells #[.int .i64 0,.int .i64 0,.slice none 0 0,.int .i64 0] (l0.length - m)).toList):=fun ty =>
      dClear w2 30 60 ty (.agg #[.int .i64 0,.int .i64 0,.slice none 0 0,.int .i64 0]) hu59 (fun w => rfl) g (m * 4) (l0.length - m) (c0 - m) (by have:=Am.out;omega) (dZeros _).2 (fun j hj => hrF.some (by have : j < (l0.length - m) * 4:=Nat.lt_of_lt_of_eq hj (dZeros _).1;have:=Am.out;omega)) (fun j hj => hrF.froz _)
    clear hraw hrF hok hCl hcw
    go_wp2
    go_ret
    rw [show l0.length - 1 = m from by have:=Am.out;omega]
    exact ⟨rfl,dTailS hS3.out (Nat.le_refl _) (by rw [(dZeros _).1];show m * 4 + (l0.length - m) * 4 ≤ c0 * 4;have:=Am.out;omega),dBelow hB3.out Ag.out _ _,dKept hK3.out _ _⟩
theorem dCopy {P : Program} (w : World) (dT sT ty elem : TypeId) (b o dLen dCap : Nat) (a : Addr) (sLen sCap : Nat) (cs : List Value) (m : Nat)
    (hu : P.underlying dT = some (.slice elem)) (hs : (P.info? elem).map (·.size) = some 4) (hm : Nat.min sLen dLen = m) (hn : cs.length = m * 4)
    (hsrc : ∀ j v,cs[j]? = some v → w.cell? (a.add j) = some v) (hc : ∀ j,j < cs.length → (w.cell? ⟨b,o + j,none⟩).isSome = true) (hf : ∀ j,j < cs.length → w.frozen? ⟨b,o + j,none⟩ = false) (h1 : ∀ v ∈ cs,v.oneCell' = true) :
    (Builtin.copy_ #[dT,sT] ty #[.slice (some ⟨b,o,none⟩) dLen dCap,.slice (some a) sLen sCap]).run P w = .ok (goInt m) (w.setCells b o cs):=by
  have hl:=run_loadCells_list (P:=P) w a cs hsrc
  have hst:=run_storeCells_cells (P:=P) b o cs 0 w (by simpa using hc) (by simpa using hf) h1
  cases hq : P.info? elem with
  | none => simp [hq] at hs
  | some i =>
    have hi : i.size = 4:=by simpa [hq] using hs
    rw [hn] at hl
    simp [Builtin.copy_,run_underlying hu,Builtin.lenOf,Builtin.firstCells,sizeOf,typeInfo,hq,hi,hm,hl]
    simpa using congrArg (fun z => z.andThen fun _ w => Result.ok (goInt m) w) hst
def insPost (b : Nat) (w0 w : World) (A0 : Option Addr) (n c0 i : Nat) (rows : List (List Value)) (r : List Value) (e : Ending) (w' : World) : Prop :=
  ∃ v,e = .returned v ∧ (Kd.raw 4).R 60 w' b (fun k => some k = v.ownBlock) v (rows.take i ++ [r] ++ rows.drop i) ∧ Below b w0 w' ∧ Kept w w' (fun k_ => some k_ = (Value.slice A0 n c0).ownBlock) ∧ (v.ownBlock = (Value.slice A0 n c0).ownBlock ∨ ∃ g,v.ownBlock = some g ∧ w.heap.size ≤ g)
set_option maxHeartbeats 1600000 in
set_option maxRecDepth 100000 in
theorem Ins.atEnd (A0 : Option Addr) (c0 n : Nat) (rows : List (List Value)) (gv cv : Nat) (r : List Value) (w0 w : World) (hB : Below w0.heap.size w0 w) (hR : (Kd.raw 4).R 60 w w0.heap.size (fun k => some k = (Value.slice A0 n c0).ownBlock) (.slice A0 n c0) rows) (hv : rF w 60 w0.heap.size gv cv [r]) (hn : n = rows.length) (hl : n ≤ 1048576) :
    Calls Tryz.prog 55 #[.slice A0 n c0,.int .i64 (n : Int),.slice (some ⟨gv,0,none⟩) 1 cv] w (insPost w0.heap.size w0 w A0 n c0 n rows r):=by
  have hu77:=Tryz.underlying60
  have hu59:=Tryz.underlying30
  have hcn:=(Kd.R_reads' hR).2.1
  have HR:=aS (Kd.R_mono hR (fun _ _ => trivial : ∀ k,_ → (fun _ => True) k))
  have HB:=aS hB
  have Awz:=aS (below_size hB)
  have HV:=aS (Kd.R_reads' (rF_raw hv _ rfl rfl)).2.2
  have An:=aS hn
  clear hB hR hv hn
  by_cases hcc : c0 = n
  · replace hcc:=eq_true hcc
    go_enter Tryz.func55,Tryz.ntmps55
    go_wp2_with (first | (at_builtin;go_loud (refine Kd.R_append_rows (Kd.raw 4) (w0:=w0) w0.heap.size rfl (.tmp 23) (.tmp 24) 30 60 (.agg #[.int .i64 0,.int .i64 0,.slice none 0 0,.int .i64 0]) 48 rfl Tryz.underlying30 info60 rfl (by decide) (by omega) (.slice A0 n c0) rows [r] (some ⟨gv,0,none⟩) 1 cv (fun _ => True) (fun _ => False) rfl rfl HR.out HV.out (fun _ _ h => h) (fun _ h => h.elim) (fun _ _ => trivial) HB.out Awz.out (by rw [← An.out];omega) ?_;intro v1 w1 hr hb hg hat;have K1:=aS hr;have K2:=aS hb;have K3:=aS hg;have K4:=aS hat;clear hr hb hg hat)))
    go_ret
    refine ⟨v1,rfl,?_,K2.out,Kept.of_grown K3.out (Kept.refl w _) (fun k hk => .inl hk.symm),K4.out⟩
    have ht : rows.take n ++ [r] ++ rows.drop n = rows ++ [r]:=by rw [List.take_of_length_le (by rw [An.out];exact Nat.le_refl _),List.drop_of_length_le (by rw [An.out];exact Nat.le_refl _),List.append_nil]
    rw [ht]
    exact Kd.R_tight rfl K1.out
  · replace hcc:=eq_false hcc
    go_enter Tryz.func55,Tryz.ntmps55
    go_wp2_with (first | (at_builtin;go_loud (refine Kd.R_append_rows (Kd.raw 4) (w0:=w0) w0.heap.size rfl (.tmp 23) (.tmp 24) 30 60 (.agg #[.int .i64 0,.int .i64 0,.slice none 0 0,.int .i64 0]) 48 rfl Tryz.underlying30 info60 rfl (by decide) (by omega) (.slice A0 n c0) rows [r] (some ⟨gv,0,none⟩) 1 cv (fun _ => True) (fun _ => False) rfl rfl HR.out HV.out (fun _ _ h => h) (fun _ h => h.elim) (fun _ _ => trivial) HB.out Awz.out (by rw [← An.out];omega) ?_;intro v1 w1 hr hb hg hat;have K1:=aS hr;have K2:=aS hb;have K3:=aS hg;have K4:=aS hat;clear hr hb hg hat)))
    go_ret
    refine ⟨v1,rfl,?_,K2.out,Kept.of_grown K3.out (Kept.refl w _) (fun k hk => .inl hk.symm),K4.out⟩
    have ht : rows.take n ++ [r] ++ rows.drop n = rows ++ [r]:=by rw [List.take_of_length_le (by rw [An.out];exact Nat.le_refl _),List.drop_of_length_le (by rw [An.out];exact Nat.le_refl _),List.append_nil]
    rw [ht]
    exact Kd.R_tight rfl K1.out
set_option maxHeartbeats 1600000 in
set_option maxRecDepth 100000 in
theorem Ins.shift (A0 : Option Addr) (c0 n : Nat) (rows : List (List Value)) (gv cv : Nat) (r : List Value) (w0 w : World) (hB : Below w0.heap.size w0 w) (hR : (Kd.raw 4).R 60 w w0.heap.size (fun k => some k = (Value.slice A0 n c0).ownBlock) (.slice A0 n c0) rows) (hv : rF w 60 w0.heap.size gv cv [r]) (hn : n = rows.length) (hl : n ≤ 1048576) (i : Nat) (hi : i < n) (hroom : n + 1 ≤ c0) (hng : ∀ g,(Value.slice A0 n c0).ownBlock = some g → gv ≠ g) :
    Calls Tryz.prog 55 #[.slice A0 n c0,.int .i64 (i : Int),.slice (some ⟨gv,0,none⟩) 1 cv] w (insPost w0.heap.size w0 w A0 n c0 i rows r):=by
  have hu77:=Tryz.underlying60
  have hu59:=Tryz.underlying30
  obtain ⟨g,cap,hs,hgb,hgs,cur,hgc⟩:=Kd.R_form hR (by omega)
  rw [← hn] at hs
  injection hs with hv1 hv2 hv3
  subst hv1
  subst hv3
  have hrF:=(rF_of hR).2
  have hne : gv ≠ g:=hng g rfl
  have hgvs : gv < w.heap.size:=by obtain ⟨_,_,_,_,cu,hcu,_⟩:=hv;exact blk_lt hcu
  have hok1 : okR [r]:=hv.2.2.2.1
  have hro : okR rows:=hrF.2.2.2.1
  obtain ⟨curv,hcv,hcvs⟩ : ∃ cu,w.heap[gv]? = some (.cells cu 60 (0,0)) ∧ cu.size = cv * 4:=by obtain ⟨_,_,_,_,cu,h1,h2,_⟩:=hv;exact ⟨cu,h1,h2⟩
  have hcg : w.heap[g]? = some (.cells cur 60 (0,0)):=hgc
  have hsz : cur.size ≠ 0:=by
    obtain ⟨_,_,_,_,cu,h1,h2,_⟩:=hrF
    have h3:=hcg.symm.trans h1
    simp only [Option.some.injEq,Obj.cells.injEq] at h3
    rw [h3.1];omega
  have hov : ∀ lb cb,(callFunc 78 #[.slice (some ⟨gv,0,none⟩) 1 cv,.slice (some ⟨g,(i + 1) * 4,none⟩) lb cb]).run Tryz.prog w = .ok (.value (.bool false)) w:=fun lb cb => by
    rw [run_callFunc_extern Tryz.func78 (by kernel_rfl) (by kernel_rfl) (by kernel_rfl) (e:=Extern.SlicesOverlaps.overlaps #[30,30] #[4]) (by kernel_rfl),
      Lib.run_overlaps_apart w 30 4 60 hu59 4 (fun _ => rfl) ⟨gv,0,none⟩ ⟨g,(i + 1) * 4,none⟩ 1 cv lb cb hne 60 60 (cv * 4) cur.size (by unfold World.shape?;rw [hcv,← hcvs]) (by unfold World.shape?;rw [hcg]) hsz (blk_frozen hcv _) (blk_frozen hcv _)]
    rfl
  have hw1 : IntKind.i64.wrap ((i : Int) + 1) = (i : Int) + 1:=by rw [IntKind.wrap_i64];omega
  have hw2 : IntKind.i64.wrap ((n : Int) + 1) = (n : Int) + 1:=by rw [IntKind.wrap_i64];omega
  have ht1 : ((i : Int) + 1).toNat = i + 1:=by omega
  have ht2 : ((n : Int) + 1).toNat = n + 1:=by omega
  have q1 : ((0 : Int) ≤ (i : Int) + 1) = True:=eq_true (by omega)
  have q2 : ((0 : Int) ≤ (n : Int) + 1) = True:=eq_true (by omega)
  have q3 : ((i : Int) + 1 ≤ (n : Int) + 1) = True:=eq_true (by omega)
  have q4 : ((n : Int) + 1 ≤ (c0 : Int)) = True:=eq_true (by omega)
  have q5 : ((i : Int) ≤ (n : Int) + 1) = True:=eq_true (by omega)
  have q6 : ((c0 : Int) < (n : Int) + 1) = False:=eq_false (by omega)
  have q7 : (c0 = i + 1) = False:=eq_false (by omega)
  have q8 : (c0 = i) = False:=eq_false (by omega)
  have q9 : ((i : Int) = (n : Int)) = False:=eq_false (by omega)
  have q10 : ((i : Int) ≤ (n : Int)) = True:=eq_true (by omega)
  have hb9 : ((i : Int) == (n : Int)) = false:=beq_eq_false_iff_ne.2 (by omega)
  have HRF:=aS hrF
  have HV:=aS hv
  have HB:=aS hB
  have AR:=aS hR
  have An:=aS hn
  have Ai:=aS hi
  have Aro:=aS hro
  have Ahr:=aS hroom
  have Aok:=aS hok1
  have Ane:=aS hne
  clear hR hrF hv hB hn hi hro hok1 hroom hcv hcvs hcg hgc hsz hng hv2 hne
  go_enter Tryz.func55,Tryz.ntmps55
  go_upto_region 15 with (simp only [hov])
  clear hov
  refine start_ (n:=9) (S:=fun _ => True) (ds:=[]) (bA 9 0) (by kernel_rfl) rfl rfl trivial (fun hHeld => ?_)
  have HRF1:=aS (HRF.out.step (W2:=w.drew) rfl)
  have HV1:=aS (HV.out.step (W2:=w.drew) rfl)
  have HB1:=aS (below_drew1 HB.out)
  have HK1:=aS (Kept.of_below (below_drew1 (Below.refl w.heap.size w)) (fun k_ => some k_ = some g))
  clear HRF HV HB
  generalize w.drew = w1 at HRF1 HV1 HB1 HK1 ⊢
  have hdl : (rows.drop i).length = n - i:=by rw [List.length_drop,← An.out]
  have hfl : (rows.drop i).flatten.length = (n - i) * 4:=by rw [(Aro.out.drop i).len,hdl]
  have hcp1 : ∀ ty dl dc sl sc,Nat.min sl dl = n - i → (Builtin.copy_ #[30,30] ty #[.slice (some ⟨g,(i + 1) * 4,none⟩) dl dc,.slice (some ⟨g,i * 4,none⟩) sl sc]).run Tryz.prog w1 = .ok (goInt ((n - i : Nat) : Int)) (w1.setCells g ((i + 1) * 4) (rows.drop i).flatten):=fun ty dl dc sl sc hm =>
    dCopy w1 30 30 ty 60 g ((i + 1) * 4) dl dc ⟨g,i * 4,none⟩ sl sc (rows.drop i).flatten (n - i) hu59 (by kernel_rfl) hm hfl (fun j v hj => by
      rw [Addr.add_lit]
      rw [Aro.out.fdrop,List.getElem?_drop] at hj
      exact HRF1.out.cell hj) (fun j hj => HRF1.out.some (by rw [hfl] at hj;have:=Ai.out;have:=Ahr.out;omega)) (fun j _ => HRF1.out.froz _) (Aro.out.drop i).one
  have AC:=aS hcp1
  have hW:=HRF1.out.write (Aro.out.drop i) (j:=i + 1) (by rw [← An.out];exact Ai.out) (by rw [hdl];have:=Ai.out;have:=Ahr.out;omega)
  have hrw : rows.take (i + 1) ++ rows.drop i ++ rows.drop (i + 1 + (rows.drop i).length) = rows.take (i + 1) ++ rows.drop i:=by
    have hdr : rows.drop (i + 1 + (rows.drop i).length) = []:=List.drop_of_length_le (by rw [hdl,← An.out];have:=Ai.out;omega)
    rw [hdr,List.append_nil]
  rw [hrw] at hW
  have HW:=aS hW
  have HVW:=aS (HV1.out.step (setCells_far (g:=g) (rows.drop i).flatten ((i + 1) * 4) gv Ane.out))
  have HBW:=aS (dBelow HB1.out hgb ((i + 1) * 4) (rows.drop i).flatten)
  have HKW:=aS (dKept HK1.out ((i + 1) * 4) (rows.drop i).flatten)
  clear hcp1 hW hrw hdl hfl HRF1 HV1 HB1 HK1
  refine pB 0 69 1 ?_
  refine pB 1 70 3 ?_
  refine pB 2 71 7 ?_
  refine pB 3 72 15 ?_
  refine pB 4 73 31 ?_
  refine pB 5 74 63 ?_
  refine pB 6 75 127 ?_
  refine pB 7 76 255 ?_
  refine oneB 8 77 511 fun K hK => ?_
  refine step_copy_runI rfl _ _ 30 30 rfl _ _ rfl rfl (AC.out _ _ _ _ _ (by simp only [Nat.min_def];split <;> omega)) ?_
  refine hK.out _ _ trivial (fun hHeld => ?_)
  clear hK K AC
  refine norm_ (a':=?_) ?_ ?_
  rotate_left
  · show Act.put _ (some 77) _ = _;go_frame;(try simp only [i64_w,i32_w]);rfl
  refine done_ (by kernel_rfl) ?_
  clear hHeld
  generalize w1.setCells g ((i + 1) * 4) (rows.drop i).flatten = w2 at HW HVW HBW HKW ⊢
  have hfr : [r].flatten = r:=by simp
  have hcp2 : ∀ ty dl dc,1 ≤ dl → (Builtin.copy_ #[30,30] ty #[.slice (some ⟨g,i * 4,none⟩) dl dc,.slice (some ⟨gv,0,none⟩) 1 cv]).run Tryz.prog w2 = .ok (goInt ((1 : Nat) : Int)) (w2.setCells g (i * 4) r):=fun ty dl dc hm =>
    hfr ▸ dCopy w2 30 30 ty 60 g (i * 4) dl dc ⟨gv,0,none⟩ 1 cv [r].flatten 1 hu59 (by kernel_rfl) (Nat.min_eq_left hm) Aok.out.len (fun j v hj => by
      rw [Addr.add_lit,Nat.zero_add]
      exact HVW.out.cell hj) (fun j hj => HW.out.some (by rw [Aok.out.len] at hj;have:=Ai.out;have:=Ahr.out;simp only [List.length_singleton] at hj;omega)) (fun j _ => HW.out.froz _) Aok.out.one
  have hcp3:=fun ty => hcp2 ty (n + 1 - i) (c0 - i) (by have:=Ai.out;omega)
  have hgi : ∀ z,goInt z = .int .i64 z:=fun _ => rfl
  have htl : (rows.take (i + 1)).length = i + 1:=by rw [List.length_take,← An.out];have:=Ai.out;omega
  have hrl : (rows.take (i + 1) ++ rows.drop i).length = n + 1:=by rw [List.length_append,htl,List.length_drop,← An.out];have:=Ai.out;omega
  have hW:=HW.out.write Aok.out (j:=i) (by rw [hrl];have:=Ai.out;omega) (by have:=Ai.out;have:=Ahr.out;simp only [List.length_singleton];omega)
  have hrw : (rows.take (i + 1) ++ rows.drop i).take i ++ [r] ++ (rows.take (i + 1) ++ rows.drop i).drop (i + [r].length) = rows.take i ++ [r] ++ rows.drop i:=by
    rw [List.take_append_of_le_length (by rw [htl];omega),List.take_take,Nat.min_eq_left (Nat.le_succ i),List.drop_left' (by rw [htl];rfl)]
  rw [hrw,hfr] at hW
  have HE:=aS hW
  clear hcp2 hW hrw htl hrl hfr
  go_wp2
  go_ret
  exact ⟨_,rfl,rF_raw HE.out _ rfl (by have:=Ai.out;have:=An.out;simp only [List.length_append,List.length_take,List.length_drop,List.length_singleton];omega),dBelow HBW.out hgb _ _,dKept HKW.out _ _,.inl rfl⟩
theorem zFlat (m : Nat) : (Builtin.zeroCells #[.int .i64 0,.int .i64 0,.slice none 0 0,.int .i64 0] m).toList = (List.replicate m [Value.int .i64 0,.int .i64 0,.slice none 0 0,.int .i64 0]).flatten:=by
  have h:=Kd.reps_zeros (R:=fun (x : List Value) cs => cs = x) (z:=.agg #[.int .i64 0,.int .i64 0,.slice none 0 0,.int .i64 0]) (size:=4) (z0:=[Value.int .i64 0,.int .i64 0,.slice none 0 0,.int .i64 0]) rfl (by omega) rfl m
  exact flat_of _ _ h.1 (fun j p hp => h.2 j p hp)
set_option maxHeartbeats 1600000 in
set_option maxRecDepth 100000 in
theorem Ins.grow (A0 : Option Addr) (c0 n : Nat) (rows : List (List Value)) (gv cv : Nat) (r : List Value) (w0 w : World) (hB : Below w0.heap.size w0 w) (hR : (Kd.raw 4).R 60 w w0.heap.size (fun k => some k = (Value.slice A0 n c0).ownBlock) (.slice A0 n c0) rows) (hv : rF w 60 w0.heap.size gv cv [r]) (hn : n = rows.length) (hl : n ≤ 1048576) (i : Nat) (hi : i < n) (hroom : c0 < n + 1) (hng : ∀ g,(Value.slice A0 n c0).ownBlock = some g → gv ≠ g) :
    Calls Tryz.prog 55 #[.slice A0 n c0,.int .i64 (i : Int),.slice (some ⟨gv,0,none⟩) 1 cv] w (insPost w0.heap.size w0 w A0 n c0 i rows r):=by
  have hu77:=Tryz.underlying60
  have hu59:=Tryz.underlying30
  have hcn:=(Kd.R_reads' hR).2.1
  obtain ⟨g,cap,hs,hgb,hgs,cur,hgc⟩:=Kd.R_form hR (by omega)
  rw [← hn] at hs
  injection hs with hv1 hv2 hv3
  subst hv1
  subst hv3
  have hrF:=(rF_of hR).2
  have hne : gv ≠ g:=hng g rfl
  have hgvs : gv < w.heap.size:=by obtain ⟨_,_,_,_,cu,hcu,_⟩:=hv;exact blk_lt hcu
  have hok1 : okR [r]:=hv.2.2.2.1
  have hro : okR rows:=hrF.2.2.2.1
  obtain ⟨i0,hi0,hz0,hzs,hzb⟩:=info_parts info60
  have hokz : okR (List.replicate (n + 1 - i) [Value.int .i64 0,.int .i64 0,.slice none 0 0,.int .i64 0]):=fun x hx => by
    rw [List.eq_of_mem_replicate hx]
    exact ⟨rfl,by simp [Value.oneCell']⟩
  have hrl : (rows.take i).length = i:=by rw [List.length_take];omega
  have hfl : (rows.take i).flatten.length = i * 4:=by rw [(hro.take i).len,hrl]
  have hold : (Builtin.firstCells i0.size i (.slice (some ⟨g,0,none⟩) i c0)).run Tryz.prog w.drew = .ok (rows.take i).flatten.toArray w.drew:=by
    rw [hzs]
    exact run_firstCells_some w.drew 4 i ⟨g,0,none⟩ i c0 (rows.take i).flatten hfl (fun j v hj => by
      rw [Addr.add_lit,Nat.zero_add]
      rw [hro.ftake,List.getElem?_take] at hj
      split at hj
      · exact hrF.cell hj
      · cases hj)
  have hik : i + (n + 1 - i) = n + 1:=by omega
  have hkk : (n : Int) + 1 - (i : Int) = ((n + 1 - i : Nat) : Int):=by omega
  obtain ⟨G,hG⟩ : ∃ G,G = grownCap w (n + 1) c0 60:=⟨_,rfl⟩
  obtain ⟨ROW,hROW⟩ : ∃ ROW : Array Value,ROW = (rows.take i).flatten.toArray ++ Builtin.zeroCells #[.int .i64 0,.int .i64 0,.slice none 0 0,.int .i64 0] (n + 1 - i) ++ Builtin.zeroCells #[.int .i64 0,.int .i64 0,.slice none 0 0,.int .i64 0] (G - (n + 1)):=⟨_,rfl⟩
  have hrz : ∀ ty,(Builtin.append_ #[30,3] ty #[.slice (some ⟨g,0,none⟩) i c0,.int .i64 ((n : Int) + 1 - (i : Int))]).run Tryz.prog w = .ok (.slice (some ⟨w.heap.size,0,none⟩) (n + 1) G) (w.drew.alloc (.cells ROW 60)):=fun ty => by
    have h:=Lib.run_append_grow_zeros w 30 3 ty 60 i0 _ .i64 .i64 hu59 Tryz.underlying3 hi0 hz0 (some ⟨g,0,none⟩) i c0 (rows.take i).flatten hold (n + 1 - i) (by omega) (by omega) (by omega) (by omega) (by rw [hzb];omega) (by rw [hzb,hik];exact growslice_fits (by omega) (by omega))
    rw [hik,← hkk,← hG] at h
    rw [hROW]
    exact h
  have hGn : n + 1 ≤ G:=by rw [hG];exact grownCap_ge w _ _ _
  have hGm : G ≤ maxLen:=by rw [hG];exact grownCap_le_maxLen w _ _ _ (by unfold maxLen;omega)
  have hcell : ROW.size = G * 4 ∧ ROW.toList.take ((n + 1) * 4) = (rows.take i ++ List.replicate (n + 1 - i) [Value.int .i64 0,.int .i64 0,.slice none 0 0,.int .i64 0]).flatten:=by
    constructor
    · rw [hROW]
      simp only [Array.size_append,List.size_toArray,size_zeroCells,hfl]
      show i * 4 + (n + 1 - i) * 4 + (G - (n + 1)) * 4 = G * 4
      omega
    · rw [hROW,List.flatten_append,← zFlat]
      simp only [Array.toList_append]
      exact List.take_left' (by rw [List.length_append,hfl,(dZeros _).1];omega)
  have hW : rF (w.drew.alloc (.cells ROW 60)) 60 w0.heap.size w.heap.size G (rows.take i ++ List.replicate (n + 1 - i) [Value.int .i64 0,.int .i64 0,.slice none 0 0,.int .i64 0]):=by
    have hle : (rows.take i ++ List.replicate (n + 1 - i) [Value.int .i64 0,.int .i64 0,.slice none 0 0,.int .i64 0]).length = n + 1:=by rw [List.length_append,hrl,List.length_replicate];omega
    exact ⟨by rw [hle];exact hGn,hGm,below_size hB,(hro.take i).append hokz,ROW,heap_alloc_new w.drew _,hcell.1,by rw [hle];exact hcell.2⟩
  have HW:=aS hW
  have HV:=aS (hv.step (heap_alloc_old w.drew (.cells ROW 60) hgvs))
  have HO:=aS (hrF.step (heap_alloc_old w.drew (.cells ROW 60) hgs))
  have HB:=aS (hB.trans (dlo (below_alloc (below_drew1 (Below.refl w.heap.size w)) (.cells ROW 60)) (below_size hB)))
  have HK:=aS (Kept.of_below (below_alloc (below_drew1 (Below.refl w.heap.size w)) (.cells ROW 60)) (fun k_ => some k_ = some g))
  have hw1 : IntKind.i64.wrap ((i : Int) + 1) = (i : Int) + 1:=by rw [IntKind.wrap_i64];omega
  have hw2 : IntKind.i64.wrap ((n : Int) + 1) = (n : Int) + 1:=by rw [IntKind.wrap_i64];omega
  have hw3 : IntKind.i64.wrap ((n : Int) + 1 - (i : Int)) = (n : Int) + 1 - (i : Int):=by rw [IntKind.wrap_i64];omega
  have ht1 : ((i : Int) + 1).toNat = i + 1:=by omega
  have q1 : ((0 : Int) ≤ (i : Int) + 1) = True:=eq_true (by omega)
  have q3 : ((i : Int) + 1 ≤ (n : Int) + 1) = True:=eq_true (by omega)
  have q5 : ((i : Int) ≤ (n : Int) + 1) = True:=eq_true (by omega)
  have q6 : ((c0 : Int) < (n : Int) + 1) = True:=eq_true (by omega)
  have q7 : (G = i + 1) = False:=eq_false (by omega)
  have q8 : (c0 = i) = False:=eq_false (by omega)
  have q11 : (G = i) = False:=eq_false (by omega)
  have q12 : ((i : Int) ≤ (c0 : Int)) = True:=eq_true (by omega)
  have q9 : ((i : Int) = (n : Int)) = False:=eq_false (by omega)
  have q10 : ((i : Int) ≤ (n : Int)) = True:=eq_true (by omega)
  have hb9 : ((i : Int) == (n : Int)) = false:=beq_eq_false_iff_ne.2 (by omega)
  have An:=aS hn
  have Ai:=aS hi
  have Aro:=aS hro
  have Ahr:=aS hGn
  have Aok:=aS hok1
  have Agn:=aS (show gv ≠ w.heap.size ∧ g ≠ w.heap.size from ⟨Nat.ne_of_lt hgvs,Nat.ne_of_lt hgs⟩)
  have Abz:=aS (below_size hB)
  have Arl:=aS hrl
  clear hR hrF hv hB hn hi hro hok1 hroom hgc hng hv2 hne hgvs hgs hokz hrl hfl hold hik hkk hG hROW hGm hcell hW hcn hi0 hz0 hzs hzb
  go_enter Tryz.func55,Tryz.ntmps55
  have AZ:=aS hrz
  clear hrz
  go_upto_region 10 with (at_builtin;go_loud (refine Lib.wpList_append_run _ rfl _ _ _ _ rfl _ _ rfl rfl _ _ (AZ.out _) ?_))
  clear AZ
  refine dGen (fun W => Aside0 (rF W 60 w0.heap.size w.heap.size G (rows.take i ++ List.replicate (n + 1 - i) [Value.int .i64 0,.int .i64 0,.slice none 0 0,.int .i64 0])) ∧ Aside0 (rF W 60 w0.heap.size gv cv [r]) ∧ Aside0 (rF W 60 w0.heap.size g c0 rows) ∧ Aside0 (Below w0.heap.size w0 W) ∧ Aside0 (Kept w W (fun k_ => some k_ = some g))) ⟨⟨HW.out⟩,⟨HV.out⟩,⟨HO.out⟩,⟨HB.out⟩,⟨HK.out⟩⟩ ?_
  clear HW HV HO HB HK
  intro W1 ⟨HW,HV,HO,HB,HK⟩
  have hfr : [r].flatten = r:=by simp
  have hcp2 : ∀ ty,(Builtin.copy_ #[30,30] ty #[.slice (some ⟨w.heap.size,i * 4,none⟩) (n + 1 - i) (G - i),.slice (some ⟨gv,0,none⟩) 1 cv]).run Tryz.prog W1 = .ok (goInt ((1 : Nat) : Int)) (W1.setCells w.heap.size (i * 4) r):=fun ty =>
    hfr ▸ dCopy W1 30 30 ty 60 w.heap.size (i * 4) (n + 1 - i) (G - i) ⟨gv,0,none⟩ 1 cv [r].flatten 1 hu59 (by kernel_rfl) (Nat.min_eq_left (by have:=Ai.out;omega)) Aok.out.len (fun j v hj => by
      rw [Addr.add_lit,Nat.zero_add]
      exact HV.out.cell hj) (fun j hj => HW.out.some (by rw [Aok.out.len] at hj;have:=Ai.out;have:=Ahr.out;simp only [List.length_singleton] at hj;omega)) (fun j _ => HW.out.froz _) Aok.out.one
  have hgi : ∀ z,goInt z = .int .i64 z:=fun _ => rfl
  have hrl : (rows.take i ++ List.replicate (n + 1 - i) [Value.int .i64 0,.int .i64 0,.slice none 0 0,.int .i64 0]).length = n + 1:=by rw [List.length_append,Arl.out,List.length_replicate];have:=Ai.out;omega
  have hW:=HW.out.write Aok.out (j:=i) (by rw [hrl];have:=Ai.out;omega) (by have:=Ai.out;have:=Ahr.out;simp only [List.length_singleton];omega)
  rw [hfr] at hW
  have HW2:=aS hW
  have HO2:=aS (HO.out.step (setCells_far (g:=w.heap.size) r (i * 4) g Agn.out.2))
  have HB2:=aS (dBelow HB.out Abz.out (i * 4) r)
  have HK2:=aS (show Kept w (W1.setCells w.heap.size (i * 4) r) (fun k_ => some k_ = some g) from ⟨by rw [(setCells_same w.heap.size r (i * 4) W1).2.2.2];exact HK.out.1,fun k hk hne => (setCells_far (g:=w.heap.size) r (i * 4) k (Nat.ne_of_lt hk)).trans (HK.out.2 k hk hne)⟩)
  clear hrl hW hfr HW HV HO HB HK
  go_upto_region 11 with (fail)
  clear hcp2
  refine start_ (n:=9) (S:=fun _ => True) (ds:=[]) (bA 9 0) (by kernel_rfl) rfl rfl trivial (fun hHeld => ?_)
  have HW3:=aS (HW2.out.step (W2:=(W1.setCells w.heap.size (i * 4) r).drew) rfl)
  have HO3:=aS (HO2.out.step (W2:=(W1.setCells w.heap.size (i * 4) r).drew) rfl)
  have HB3:=aS (below_drew1 HB2.out)
  have HK3:=aS (Kept.drew HK2.out)
  clear HW2 HO2 HB2 HK2
  generalize (W1.setCells w.heap.size (i * 4) r).drew = W2 at HW3 HO3 HB3 HK3 ⊢
  have hdl : (rows.drop i).length = n - i:=by rw [List.length_drop,← An.out]
  have hfl : (rows.drop i).flatten.length = (n - i) * 4:=by rw [(Aro.out.drop i).len,hdl]
  have hcp1 : ∀ ty dl dc sl sc,Nat.min sl dl = n - i → (Builtin.copy_ #[30,30] ty #[.slice (some ⟨w.heap.size,(i + 1) * 4,none⟩) dl dc,.slice (some ⟨g,i * 4,none⟩) sl sc]).run Tryz.prog W2 = .ok (goInt ((n - i : Nat) : Int)) (W2.setCells w.heap.size ((i + 1) * 4) (rows.drop i).flatten):=fun ty dl dc sl sc hm =>
    dCopy W2 30 30 ty 60 w.heap.size ((i + 1) * 4) dl dc ⟨g,i * 4,none⟩ sl sc (rows.drop i).flatten (n - i) hu59 (by kernel_rfl) hm hfl (fun j v hj => by
      rw [Addr.add_lit]
      rw [Aro.out.fdrop,List.getElem?_drop] at hj
      exact HO3.out.cell hj) (fun j hj => HW3.out.some (by rw [hfl] at hj;have:=Ai.out;have:=Ahr.out;omega)) (fun j _ => HW3.out.froz _) (Aro.out.drop i).one
  have AC:=aS hcp1
  have htl : (rows.take i ++ [r]).length = i + 1:=by rw [List.length_append,Arl.out];rfl
  have hx1 : (rows.take i ++ List.replicate (n + 1 - i) [Value.int .i64 0,.int .i64 0,.slice none 0 0,.int .i64 0]).take i = rows.take i:=List.take_left' Arl.out
  have hx2 : ((rows.take i ++ List.replicate (n + 1 - i) [Value.int .i64 0,.int .i64 0,.slice none 0 0,.int .i64 0]).drop (i + [r].length)).length = n - i:=by
    rw [List.length_drop,List.length_append,Arl.out,List.length_replicate,List.length_singleton];have:=Ai.out;omega
  have hW3:=HW3.out
  rw [hx1] at hW3
  have hW:=hW3.write (Aro.out.drop i) (j:=i + 1) (by rw [List.length_append,htl];exact Nat.le_add_right _ _) (by rw [hdl];have:=Ai.out;have:=Ahr.out;omega)
  have hrw : (rows.take i ++ [r] ++ (rows.take i ++ List.replicate (n + 1 - i) [Value.int .i64 0,.int .i64 0,.slice none 0 0,.int .i64 0]).drop (i + [r].length)).take (i + 1) ++ rows.drop i ++ (rows.take i ++ [r] ++ (rows.take i ++ List.replicate (n + 1 - i) [Value.int .i64 0,.int .i64 0,.slice none 0 0,.int .i64 0]).drop (i + [r].length)).drop (i + 1 + (rows.drop i).length) = rows.take i ++ [r] ++ rows.drop i:=by
    rw [List.take_left' htl]
    have hdr : (rows.take i ++ [r] ++ (rows.take i ++ List.replicate (n + 1 - i) [Value.int .i64 0,.int .i64 0,.slice none 0 0,.int .i64 0]).drop (i + [r].length)).drop (i + 1 + (rows.drop i).length) = []:=List.drop_of_length_le (by rw [List.length_append,htl,hx2,hdl];exact Nat.le_refl _)
    rw [hdr,List.append_nil]
  rw [hrw] at hW
  have HE:=aS hW
  have HBE:=aS (dBelow HB3.out Abz.out ((i + 1) * 4) (rows.drop i).flatten)
  have HKE:=aS (show Kept w (W2.setCells w.heap.size ((i + 1) * 4) (rows.drop i).flatten) (fun k_ => some k_ = some g) from ⟨by rw [(setCells_same w.heap.size (rows.drop i).flatten ((i + 1) * 4) W2).2.2.2];exact HK3.out.1,fun k hk hne => (setCells_far (g:=w.heap.size) (rows.drop i).flatten ((i + 1) * 4) k (Nat.ne_of_lt hk)).trans (HK3.out.2 k hk hne)⟩)
  clear hcp1 hW hW3 hrw hx1 hx2 htl hdl hfl HW3 HO3 HB3 HK3
  refine pB 0 46 1 ?_
  refine pB 1 47 3 ?_
  refine pB 2 48 7 ?_
  refine pB 3 49 15 ?_
  refine pB 4 50 31 ?_
  refine pB 5 51 63 ?_
  refine pB 6 52 127 ?_
  refine pB 7 53 255 ?_
  refine oneB 8 54 511 fun K hK => ?_
  refine step_copy_runI rfl _ _ 30 30 rfl _ _ rfl rfl (AC.out _ _ _ _ _ (by simp only [Nat.min_def];split <;> omega)) ?_
  refine hK.out _ _ trivial (fun hHeld => ?_)
  clear hK K AC
  refine norm_ (a':=?_) ?_ ?_
  rotate_left
  · show Act.put _ (some 54) _ = _;go_frame;(try simp only [i64_w,i32_w]);rfl
  refine done_ (by kernel_rfl) ?_
  clear hHeld
  generalize W2.setCells w.heap.size ((i + 1) * 4) (rows.drop i).flatten = W3 at HE HBE HKE ⊢
  go_wp2
  go_ret
  exact ⟨_,rfl,rF_raw HE.out _ rfl (by have:=Ai.out;have:=An.out;simp only [List.length_append,List.length_take,List.length_drop,List.length_singleton];omega),HBE.out,HKE.out,.inr ⟨w.heap.size,rfl,Nat.le_refl _⟩⟩
def insOk (ok okp : Nat → Prop) (own : Option Nat) (f : Nat → Nat) (N i j k : Nat) : Prop:=(k < N ∧ some k ≠ own) ∧ ((j = i ∧ okp k) ∨ (j ≠ i ∧ ok k ∧ f k = (if j < i then j else j - 1)))
theorem insert_at {β : Type} (l : List β) (x : β) {i : Nat} (hi : i ≤ l.length) (j : Nat) : (l.take i ++ [x] ++ l.drop i)[j]? = if j < i then l[j]? else if j = i then some x else l[j - 1]?:=by
  have hl : (l.take i).length = i:=by rw [List.length_take];omega
  rw [List.append_assoc,List.getElem?_append,hl]
  by_cases h : j < i
  · rw [if_pos h,if_pos h,List.getElem?_take,if_pos h]
  · rw [if_neg h,if_neg h]
    by_cases h2 : j = i
    · rw [if_pos h2,h2,Nat.sub_self];rfl
    · rw [if_neg h2,show j - i = (j - i - 1) + 1 by omega,List.singleton_append,List.getElem?_cons_succ,List.getElem?_drop]
      congr 1
      omega
theorem insPost_S (A0 : Option Addr) (c0 : Nat) (l0 : List S60) (i : Nat) (x : S60) (r : List Value) (C : List (List Value)) (f : Nat → Nat) (ok okp : Nat → Prop) (w0 w : World) (hCl : C.length = l0.length) (hok : ∀ k,(Value.slice A0 l0.length c0).ownBlock = some k → ok k)
    (hM : ∀ j y c,l0[j]? = some y → C[j]? = some c → k60.M w w0.heap.size (fun k => (ok k ∧ some k ≠ (Value.slice A0 l0.length c0).ownBlock) ∧ f k = j) y c) (hx : k60.M w w0.heap.size okp x r) (hap : ∀ k,okp k → ¬ ok k) (hi : i ≤ l0.length) (e : Ending) (w' : World) (h : insPost w0.heap.size w0 w A0 l0.length c0 i C r e w') :
    ∃ v,e = .returned v ∧ Kd.S k60 60 w' w0.heap.size (fun k => ok k ∨ okp k ∨ w.heap.size ≤ k) v (l0.take i ++ [x] ++ l0.drop i) ∧ Below w0.heap.size w0 w' ∧ Kept w w' (fun k_ => some k_ = (Value.slice A0 l0.length c0).ownBlock):=by
  obtain ⟨v,rfl,hR,hB,hK,hat⟩:=h
  refine ⟨v,rfl,?_,hB,hK⟩
  have hvb : ∀ k,v.ownBlock = some k → ok k ∨ w.heap.size ≤ k:=fun k hk => by
    rcases hat with hat | ⟨g,hg,hle⟩
    · exact .inl (hok k (hat ▸ hk))
    · rw [hg] at hk;injection hk with hk;subst hk;exact .inr hle
  have hnv : ∀ k,k < w.heap.size → some k ≠ (Value.slice A0 l0.length c0).ownBlock → some k ≠ v.ownBlock:=fun k hl hne he => by
    rcases hat with hat | ⟨g,hg,hle⟩
    · exact hne (he.trans hat)
    · rw [hg] at he;injection he with he;omega
  have hpn : ∀ k,okp k → some k ≠ (Value.slice A0 l0.length c0).ownBlock:=fun k hk he => hap k hk (hok k he.symm)
  refine dS_of hR (fun k hk => (hvb k hk).elim .inl (fun h => .inr (.inr h))) (insOk ok okp (Value.slice A0 l0.length c0).ownBlock f w.heap.size i) (fun a b k ha hb => ?_) (fun j k hk => ⟨?_,hnv k hk.1.1 hk.1.2⟩) ?_ (fun j y c hy hc => ?_)
  · rcases ha.2 with ⟨h1,h2⟩ | ⟨h1,h2,h3⟩ <;> rcases hb.2 with ⟨h4,h5⟩ | ⟨h4,h5,h6⟩
    · rw [h1,h4]
    · exact absurd h5 (hap k h2)
    · exact absurd h2 (hap k h5)
    · rw [h3] at h6
      split at h6 <;> split at h6 <;> omega
  · rcases hk.2 with ⟨_,h2⟩ | ⟨_,h2,_⟩
    · exact .inr (.inl h2)
    · exact .inl h2
  · simp only [List.length_append,List.length_take,List.length_drop,List.length_singleton,hCl]
  · rw [insert_at l0 x hi] at hy
    rw [insert_at C r (by omega)] at hc
    have hmv : ∀ k,k < w.heap.size → some k ≠ (Value.slice A0 l0.length c0).ownBlock → w'.heap[k]? = w.heap[k]?:=fun k hl hne => hK.2 k hl hne
    by_cases h1 : j < i
    · rw [if_pos h1] at hy hc
      have h3:=k60.M_bound (hM j y c hy hc)
      exact k60.M_mono (fun k hk => ⟨⟨hk.2.2.1,hk.1.1.2⟩,.inr ⟨by omega,hk.1.1.1,by rw [if_pos h1];exact hk.1.2⟩⟩) (k60.M_move (fun k hk => hmv k hk.2.2.1 hk.1.1.2) h3)
    · rw [if_neg h1] at hy hc
      by_cases h2 : j = i
      · rw [if_pos h2] at hy hc
        injection hy with hy;injection hc with hc
        subst hy;subst hc
        have h3:=k60.M_bound hx
        exact k60.M_mono (fun k hk => ⟨⟨hk.2.2.1,hpn k hk.1⟩,.inl ⟨h2,hk.1⟩⟩) (k60.M_move (fun k hk => hmv k hk.2.2.1 (hpn k hk.1)) h3)
      · rw [if_neg h2] at hy hc
        have h3:=k60.M_bound (hM (j - 1) y c hy hc)
        exact k60.M_mono (fun k hk => ⟨⟨hk.2.2.1,hk.1.1.2⟩,.inr ⟨h2,hk.1.1.1,by rw [if_neg h1];exact hk.1.2⟩⟩) (k60.M_move (fun k hk => hmv k hk.2.2.1 hk.1.1.2) h3)
theorem Ins.calls (A0 : Option Addr) (c0 : Nat) (l0 : List S60) (i : Nat) (gv cv : Nat) (x : S60) (r : List Value) (ok okp : Nat → Prop) (w0 w : World) (hB : Below w0.heap.size w0 w) (hS : Kd.S k60 60 w w0.heap.size ok (.slice A0 l0.length c0) l0) (hx : k60.M w w0.heap.size okp x r) (hap : ∀ k,okp k → ¬ ok k)
    (hv : rF w 60 w0.heap.size gv cv [r]) (hng : ¬ ok gv) (hi : i ≤ l0.length) (hl : l0.length ≤ 1048576) :
    Calls Tryz.prog 55 #[.slice A0 l0.length c0,.int .i64 (i : Int),.slice (some ⟨gv,0,none⟩) 1 cv] w fun e w' => ∃ v,e = .returned v ∧ Kd.S k60 60 w' w0.heap.size (fun k => ok k ∨ okp k ∨ w.heap.size ≤ k) v (l0.take i ++ [x] ++ l0.drop i) ∧ Below w0.heap.size w0 w' ∧ Kept w w' (fun k_ => some k_ = (Value.slice A0 l0.length c0).ownBlock):=by
  obtain ⟨C,f,hCl,hok,hraw,hM⟩:=dS_raw hS
  have hgn : ∀ g,(Value.slice A0 l0.length c0).ownBlock = some g → gv ≠ g:=fun g hg he => hng (he ▸ hok g hg)
  have hP:=insPost_S A0 c0 l0 i x r C f ok okp w0 w hCl hok hM hx hap hi
  by_cases h1 : i = l0.length
  · rw [h1] at hP ⊢
    exact (Ins.atEnd A0 c0 l0.length C gv cv r w0 w hB hraw hv hCl.symm hl).mono (fun e w' h => hP e w' h)
  · by_cases h2 : l0.length + 1 ≤ c0
    · exact (Ins.shift A0 c0 l0.length C gv cv r w0 w hB hraw hv hCl.symm hl i (by omega) h2 hgn).mono (fun e w' h => hP e w' h)
    · exact (Ins.grow A0 c0 l0.length C gv cv r w0 w hB hraw hv hCl.symm hl i (by omega) (by omega) hgn).mono (fun e w' h => hP e w' h)
set_option maxHeartbeats 1600000 in
set_option maxRecDepth 100000 in
theorem Find.calls (k : Nat) (A0 : Option Addr) (c0 : Nat) (l0 : List S60) (x0 x1 pc t : Int) (b : Bool) (go : Nat) (w : World) (hgo : w.heap[go]? = some (.cells #[.int .i64 x0,.int .i64 x1,.slice A0 l0.length c0] 32 (0,0))) (hr : Kd.C k60 w A0 l0.length l0) (hc : l0.length ≤ c0) (h : slices_BinarySearchFunc_75_g76.f k l0 pc = some (t,b)) :
    Calls Tryz.prog 53 #[.pointer (some ⟨go,0,none⟩),.int .i64 pc] w fun e w' => e = .returned (.tuple #[.int .i64 t,.bool b]) ∧ Below w.heap.size w w':=by
  have hu61:=Tryz.underlying32
  have AG:=aS hgo
  have AR:=aS hr
  have Ac:=aS hc
  have Ah:=aS h
  clear hr hc h
  go_enter Tryz.func53,Tryz.ntmps53
  refine zz3 AG.out ?_;intros
  clear hgo
  go_wp2_with (go_at_call 75;go_loud (refine (slices_BinarySearchFunc_75_g76.calls k A0 c0 l0 pc t b _ AR.out Ac.out Ah.out).mono ?_;rintro e w8 ⟨rfl,hb⟩;have B8:=aS hb;clear hb))
  go_ret2
  exact ⟨rfl,B8.out⟩
def putDel (x0 : Int) (l0 : List S60) (t : Int) (b : Bool) : Option (List S60) :=
  if b = true then (if 0 ≤ t ∧ t < (l0.length : Int) then some (l0.eraseIdx t.toNat) else none)
  else if (l0.length : Int) = x0 then (if leastG l0 l0 0 0 < l0.length then some (l0.eraseIdx (leastG l0 l0 0 0)) else none) else some l0
def impl_put.f (k : Nat) (x0 x1 : Int) (l0 : List S60) (u0 u1 : Int) (lU : List S70) : Option (Int × List S60 × Bool) :=
  if 1000000 ≤ x1 then some (x1,l0,false) else if l0.length ≤ 1048576 then
    (slices_BinarySearchFunc_75_g76.f k l0 u0).bind fun p => (putDel x0 l0 p.1 p.2).bind fun l1 => (slices_BinarySearchFunc_75_g76.f k l1 u0).bind fun q => (impl_ownUnit.f u0 u1 lU).bind fun v =>
      if 0 ≤ q.1 ∧ q.1 ≤ (l1.length : Int) then some (wrap64 (x1 + 1),l1.take q.1.toNat ++ [(⟨⟨v.1,v.2.1,v.2.2⟩,wrap64 (x1 + 1)⟩ : S60)] ++ l1.drop q.1.toNat,true) else none
    else none
theorem eraseIdx_le {β : Type} (l : List β) (i : Nat) : (l.eraseIdx i).length ≤ l.length:=by rw [List.length_eraseIdx];split <;> omega
theorem putDel_le {x0 t : Int} {b : Bool} {l0 l1 : List S60} (h : putDel x0 l0 t b = some l1) : l1.length ≤ l0.length:=by
  unfold putDel at h
  repeat' split at h
  all_goals first | (injection h with h;rw [← h];exact eraseIdx_le _ _) | (injection h with h;rw [← h];exact Nat.le_refl _) | exact absurd h (by simp)
set_option maxHeartbeats 1600000 in
set_option maxRecDepth 100000 in
theorem Put.calls (k : Nat) (A0 : Option Addr) (c0 : Nat) (l0 : List S60) (x0 x1 u0 u1 : Int) (AU : Option Addr) (cU : Nat) (lU : List S70) (go : Nat) (ok : Nat → Prop) (r1 : Int) (r2 : List S60) (r3 : Bool) (w0 w : World) (hB : Below w0.heap.size w0 w) (hS : Kd.S k60 60 w w0.heap.size ok (.slice A0 l0.length c0) l0)
    (hgo : w.heap[go]? = some (.cells #[.int .i64 x0,.int .i64 x1,.slice A0 l0.length c0] 32 (0,0))) (hgb : w0.heap.size ≤ go) (hUr : Kd.C k70 w0 AU lU.length lU) (hUc : lU.length ≤ cU) (h : impl_put.f k x0 x1 l0 u0 u1 lU = some (r1,r2,r3)) :
    Calls Tryz.prog 26 #[.pointer (some ⟨go,0,none⟩),.agg #[.int .i64 u0,.int .i64 u1,.slice AU lU.length cU]] w fun e w' => ∃ A c,e = .returned (.bool r3) ∧ w'.heap[go]? = some (.cells #[.int .i64 x0,.int .i64 r1,.slice A r2.length c] 32 (0,0)) ∧ Kd.S k60 60 w' w0.heap.size (fun k => ok k ∨ w.heap.size ≤ k) (.slice A r2.length c) r2 ∧ Below w0.heap.size w0 w' ∧ Kept w w' (fun k_ => k_ = go ∨ ok k_):=by
  have hu61:=Tryz.underlying32
  have hu41:=Tryz.underlying38
  have hu60:=Tryz.underlying60
  unfold impl_put.f at h
  have AB:=aS hB
  have AS:=aS hS
  have AG:=aS hgo
  have Agb:=aS hgb
  have AU1:=aS hUr
  have AU2:=aS hUc
  have hcS:=(Kd.S_reads' hS).2
  clear hB hS hgb hUr hUc
  by_cases hx : 1000000 ≤ x1
  · rw [if_pos hx] at h
    simp only [Option.some.injEq,Prod.mk.injEq] at h
    obtain ⟨rfl,rfl,rfl⟩:=h
    have k0 : decide (1000000 ≤ x1) = true:=decide_eq_true hx
    refine zz3 hgo ?_;intros
    clear hgo
    go_enter Tryz.func26,Tryz.ntmps26
    go_wp2_with (first | ((with_reducible refine gD 3 rfl ?_);go_loud (refine bY #[.int .i64 u0,.int .i64 u1,.slice AU lU.length cU] 38 ?_;intro gu hg_ w1 hbx hb;have B1:=aS hb;refine zz3 (blk_below AG.out hb) ?_;intros;clear hg_ hb hbx)))
    go_ret
    exact ⟨A0,c0,rfl,blk_below AG.out B1.out,Kd.S_mono (Kd.S_below AS.out B1.out) (fun _ h => .inl h),AB.out.trans (dlo B1.out (below_size AB.out)),Kept.of_below B1.out _⟩
  · rw [if_neg hx] at h
    by_cases hlen : l0.length ≤ 1048576
    rotate_left
    · rw [if_neg hlen] at h;exact absurd h (by simp)
    rw [if_pos hlen] at h
    replace h:=bE h;obtain ⟨⟨t,b⟩,hF1,h⟩:=h
    replace h:=bE h;obtain ⟨l1,hD,h⟩:=h
    dsimp only at hD h
    replace h:=bE h;obtain ⟨⟨t2,b2⟩,hF2,h⟩:=h
    replace h:=bE h;obtain ⟨⟨v0,v1,lV⟩,hO,h⟩:=h
    dsimp only at h
    by_cases ht2 : 0 ≤ t2 ∧ t2 ≤ (l1.length : Int)
    rotate_left
    · rw [if_neg ht2] at h;exact absurd h (by simp)
    rw [if_pos ht2] at h
    simp only [Option.some.injEq,Prod.mk.injEq] at h
    obtain ⟨rfl,rfl,rfl⟩:=h
    have k0 : decide (1000000 ≤ x1) = false:=decide_eq_false hx
    have AF1:=aS hF1
    have AF2:=aS hF2
    have AD:=aS hD
    have AO:=aS hO
    have At2:=aS ht2
    have Al:=aS hlen
    have Al1:=aS (putDel_le hD)
    have Ac0:=aS hcS.1
    have AC0:=aS hcS.2
    clear hF1 hF2 hD hO ht2 hlen hcS hx
    refine zz3 hgo ?_;intros
    clear hgo
    go_enter Tryz.func26,Tryz.ntmps26
    go_upto_block 0 with (first | (go_at_call 53;go_loud (refine (Find.calls k A0 c0 l0 x0 x1 u0 t b go _ (blk_below AG.out B1.out) (Kd.C_below AC0.out B1.out) Ac0.out AF1.out).mono ?_;rintro e w8 ⟨rfl,hb⟩;replace K3:=aS (blk_below K3.out hb);replace B1:=aS (dZ B1.out hb);refine zz3 (blk_below AG.out B1.out) ?_;intros;clear hb)) | ((with_reducible refine gD 3 rfl ?_);go_loud (refine bY #[.int .i64 u0,.int .i64 u1,.slice AU lU.length cU] 38 ?_;intro gu hg_ w1 hbx hb;have B1:=aS hb;have K3:=aS hbx;have L3:=aS (Nat.le_of_eq hg_.symm : w.heap.size ≤ gu);have N3:=aS (Nat.ne_of_lt (by rw [hg_];exact blk_lt AG.out : go < gu));refine zz3 (blk_below AG.out hb) ?_;intros;refine zz3 hbx ?_;intros;clear hg_ hb hbx)))
    go_cut [5] (fun v5 wc => Aside0 (Kd.S k60 60 wc w0.heap.size ok (.slice A0 l1.length c0) l1) ∧ Aside0 (wc.heap[go]? = some (.cells #[.int .i64 x0,.int .i64 x1,.slice A0 l1.length c0] 32 (0,0))) ∧ Aside0 (wc.heap[gu]? = some (.cells #[.int .i64 u0,.int .i64 u1,.slice AU lU.length cU] 38 (0,0))) ∧ Aside0 (Below w0.heap.size w0 wc) ∧ Aside0 (Kept w wc (fun k_ => k_ = go ∨ some k_ = (Value.slice A0 l0.length c0).ownBlock)))
    case first =>
      have AgN:=aS (show ¬ some go = (Value.slice A0 l0.length c0).ownBlock from Kd.S_ne AS.out AG.out (by decide))
      have AuN:=aS (show ¬ some gu = (Value.slice A0 l0.length c0).ownBlock from fun he => by
        have h2:=Kd.S_ne (Kd.S_below AS.out B1.out) K3.out (by decide)
        exact h2 he)
      have BX:=B1
      have hD:=AD.out
      unfold putDel at hD
      cases b with
      | true =>
        rw [if_pos rfl] at hD
        by_cases hc : 0 ≤ t ∧ t < (l0.length : Int)
        rotate_left
        · rw [if_neg hc] at hD;exact absurd hD (by simp)
        rw [if_pos hc] at hD
        obtain ⟨i,rfl⟩ : ∃ i : Nat,t = (i : Int):=⟨t.toNat,by omega⟩
        rw [Int.toNat_natCast] at hD
        injection hD with hD
        have Ai:=aS (show i < l0.length by omega)
        have hw54 : wrap64 ((i : Int) + 1) = ((i + 1 : Nat) : Int):=by have:=Al.out;unfold wrap64;omega
        have Al1':=aS (show l1.length = l0.length - 1 by rw [← hD,List.length_eraseIdx_of_lt Ai.out])
        have AD1:=aS hD
        clear hD hc
        go_wp2_with (first | (go_at_call 54;(try rw [hw54]);go_loud (refine (Del.calls A0 c0 l0 i ok w0 _ (AB.out.trans (dlo BX.out (below_size AB.out))) (Kd.S_below AS.out BX.out) Al.out Ai.out).mono ?_;rintro e w9 ⟨rfl,hS9,hB9,hK9⟩;have S9:=aS hS9;have B9:=aS hB9;have K9:=aS hK9;have G9:=aS (blk_kept (blk_below AG.out BX.out) hK9 AgN.out);have U9:=aS (blk_kept K3.out hK9 AuN.out);clear hS9 hB9 hK9;refine zz3 G9.out ?_;intros)))
        go_meet
        case rel => exact ⟨⟨by rw [Al1'.out,← AD1.out];exact dSets S9.out G9.out (by decide)⟩,⟨by rw [Al1'.out];exact oP G9.out⟩,⟨blk_far U9.out (p:=⟨go,2,none⟩) (Ne.symm N3.out) _⟩,⟨B9.out.setCell (p:=⟨go,2,none⟩) Agb.out _⟩,⟨((Kept.of_below BX.out _).then_ K9.out (fun k h => .inl (.inr h))).setCell (p:=⟨go,2,none⟩) (.inl (.inl rfl)) _⟩⟩
      | false =>
        rw [if_neg (by simp)] at hD
        by_cases hc : (l0.length : Int) = x0
        · rw [if_pos hc] at hD
          have hc0:=hc
          have kb : ((l0.length : Int) == x0) = true:=beq_iff_eq.2 hc
          clear hc
          by_cases hle : leastG l0 l0 0 0 < l0.length
          rotate_left
          · rw [if_neg hle] at hD;exact absurd hD (by simp)
          rw [if_pos hle] at hD
          injection hD with hD
          have Ac:=aS hc0
          have AD1:=aS hD
          have Ale:=aS hle
          have Alz:=aS (show 0 < l0.length by omega)
          clear hD hc0 hle
          go_upto_region 6 with (fail)
          go_quiet (fail)
          go_wp2
          go_loopg [7,8,9,51] l0.length (fun gq v7 _ _ v51 wr => ∃ (j i : Nat),v51 = .int .i64 j ∧ v7 = .int .i64 i ∧ Aside0 (j + gq = l0.length) ∧ Aside0 (i < l0.length) ∧ Aside0 (leastG l0 (l0.drop j) j i = leastG l0 l0 0 0) ∧ Aside0 (Below w.heap.size w wr) ∧ Aside0 (wr.heap[gu]? = some (.cells #[.int .i64 u0,.int .i64 u1,.slice AU lU.length cU] 38 (0,0))))
          case atStart => exact ⟨0,0,rfl,rfl,⟨by omega⟩,Alz,⟨rfl⟩,⟨pw_below_drewN BX.out _⟩,⟨oB K3.out⟩⟩
          case round =>
            clear K3
            obtain ⟨j,i,rfl,rfl,Aj,Ai,AL,BR,K3⟩:=hrel
            by_cases hlt : j < l0.length
            · have k1 : decide ((j : Int) < (l0.length : Int)) = true:=decide_eq_true (by omega)
              have p0 : (0 ≤ (j : Int)) = True:=eq_true (by omega)
              have q0 : ((j : Int) < (l0.length : Int)) = True:=eq_true (by omega)
              have p1 : (0 ≤ (i : Int)) = True:=eq_true (by omega)
              have q1 : ((i : Int) < (l0.length : Int)) = True:=eq_true (by have:=Ai.out;omega)
              obtain ⟨ad,A2,c2,eA,hx0,hx1,hx2,hx3,_,_⟩:=at_T60 (Kd.C_below AC0.out BR.out) (j : Int) (by omega) (by omega)
              cases eA
              simp only [Int.toNat_natCast] at hx0 hx1 hx2 hx3
              have Alt:=aS hlt
              clear hlt
              refine zz3 (blk_below AG.out BR.out) ?_;intros
              go_upto_region 11 with (first | ((with_reducible refine gD 9 rfl ?_);go_loud (refine bY #[.int .i64 0,.int .i64 0,.slice none 0 0,.int .i64 0] 60 ?_;intro gv hg_ w1 hbx hb;have HGE:=aS (Nat.le_of_eq hg_.symm : wr.heap.size ≤ gv);have HBX:=aS hb;have HKV:=aS hbx;obtain ⟨hz0,hz1,hz2,hz3⟩:=cz4 hbx;obtain ⟨hf0,hf1,hf2,hf3⟩:=fz4 hbx;clear hg_ hb hbx)))
              refine dGen (fun W => Aside0 (Below wr.heap.size wr W) ∧ Aside0 (W.heap[gv]? = some (.cells #[.int .i64 (rd_T60 l0 j).f0.f0,.int .i64 (rd_T60 l0 j).f0.f1,.slice A2 (rd_T60 l0 j).f0.f2.length c2,.int .i64 (rd_T60 l0 j).f1] 60 (0,0)))) ⟨⟨by repeat (first | exact HBX.out | refine below_set ?_ HGE.out)⟩,⟨oP HKV.out⟩⟩ ?_
              clear HBX HKV hz0 hz1 hz2 hz3 hf0 hf1 hf2 hf3 hx0 hx1 hx2 hx3
              intro W ⟨BW,KV⟩
              have BRW:=aS (dZ BR.out BW.out)
              obtain ⟨hz0,hz1,hz2,hz3⟩:=cz4 KV.out
              obtain ⟨ad2,A3,c3,eA,hy0,hy1,hy2,hy3,_,_⟩:=at_T60 (Kd.C_below AC0.out BRW.out) (i : Int) (by omega) (by have:=Ai.out;omega)
              cases eA
              simp only [Int.toNat_natCast] at hy0 hy1 hy2 hy3
              refine zz3 (blk_below AG.out BRW.out) ?_;intros
              have hw51 : wrap64 ((j : Int) + 1) = ((j + 1 : Nat) : Int):=by have:=Al.out;have:=Alt.out;unfold wrap64;omega
              have hst:=AL.out
              rw [List.drop_eq_getElem_cons Alt.out,leastG] at hst
              have hrj : rd_T60 l0 (j : Int) = l0[j]'Alt.out:=by unfold rd_T60;rw [Int.toNat_natCast,List.getD_eq_getElem?_getD,List.getElem?_eq_getElem Alt.out];rfl
              have hri : rd_T60 l0 (i : Int) = l0.getD i z60:=by unfold rd_T60;rw [Int.toNat_natCast]
              rw [← hrj,← hri] at hst
              clear hrj hri
              by_cases hless : (rd_T60 l0 (j : Int)).f1 < (rd_T60 l0 (i : Int)).f1
              · rw [if_pos hless] at hst
                have k2:=decide_eq_true hless
                have Ast:=aS hst
                clear hst hless
                go_quiet (fail)
                go_wp2
                go_roundg (l0.length - (j + 1))
                case measure => have:=Aj.out;have:=Alt.out;omega
                case rel => exact ⟨j + 1,j,dW Alt.out Al.out,rfl,⟨by have:=Alt.out;omega⟩,Alt,Ast,⟨pw_below_drewN BRW.out _⟩,⟨blk_drewN (blk_below K3.out BW.out) _⟩⟩
              · rw [if_neg hless] at hst
                have k2:=decide_eq_false hless
                have Ast:=aS hst
                clear hst hless
                go_quiet (fail)
                go_wp2
                go_roundg (l0.length - (j + 1))
                case measure => have:=Aj.out;have:=Alt.out;omega
                case rel => exact ⟨j + 1,i,dW Alt.out Al.out,rfl,⟨by have:=Alt.out;omega⟩,Ai,Ast,⟨pw_below_drewN BRW.out _⟩,⟨blk_drewN (blk_below K3.out BW.out) _⟩⟩
            · obtain rfl : j = l0.length:=by have:=Aj.out;omega
              have k1 : decide ((l0.length : Int) < (l0.length : Int)) = false:=decide_eq_false (by omega)
              have hst:=AL.out
              rw [List.drop_of_length_le (Nat.le_refl _),leastG] at hst
              replace AD1:=aS (show l0.eraseIdx i = l1 by rw [hst];exact AD1.out)
              have Al1':=aS (show l1.length = l0.length - 1 by rw [← AD1.out,List.length_eraseIdx_of_lt Ai.out])
              have hw54 : wrap64 ((i : Int) + 1) = ((i + 1 : Nat) : Int):=by have:=Al.out;have:=Ai.out;unfold wrap64;omega
              clear hst hlt AL
              replace BX:=BR
              refine zz3 (blk_below AG.out BX.out) ?_;intros
              go_wp2_with (first | (go_at_call 54;(try rw [hw54]);go_loud (refine (Del.calls A0 c0 l0 i ok w0 _ (AB.out.trans (dlo BX.out (below_size AB.out))) (Kd.S_below AS.out BX.out) Al.out Ai.out).mono ?_;rintro e w9 ⟨rfl,hS9,hB9,hK9⟩;have S9:=aS hS9;have B9:=aS hB9;have K9:=aS hK9;have G9:=aS (blk_kept (blk_below AG.out BX.out) hK9 AgN.out);have U9:=aS (blk_kept K3.out hK9 AuN.out);clear hS9 hB9 hK9;refine zz3 G9.out ?_;intros)))
              go_meet
              case rel => exact ⟨⟨by rw [Al1'.out,← AD1.out];exact dSets S9.out G9.out (by decide)⟩,⟨by rw [Al1'.out];exact oP G9.out⟩,⟨blk_far U9.out (p:=⟨go,2,none⟩) (Ne.symm N3.out) _⟩,⟨B9.out.setCell (p:=⟨go,2,none⟩) Agb.out _⟩,⟨((Kept.of_below BX.out _).then_ K9.out (fun k h => .inl (.inr h))).setCell (p:=⟨go,2,none⟩) (.inl (.inl rfl)) _⟩⟩
        · rw [if_neg hc] at hD
          injection hD with hD
          subst hD
          have kb : ((l0.length : Int) == x0) = false:=beq_eq_false_iff_ne.2 hc
          clear hc
          go_upto_region 6 with (fail)
          go_quiet (fail)
          go_wp2
          go_meet
          case rel => exact ⟨⟨Kd.S_below AS.out (pw_below_drewN BX.out _)⟩,⟨oB (blk_below AG.out BX.out)⟩,⟨oB K3.out⟩,⟨AB.out.trans (dlo (pw_below_drewN BX.out _) (below_size AB.out))⟩,⟨Kept.of_below (pw_below_drewN BX.out _) _⟩⟩
    case rest =>
      obtain ⟨S1,G1,U1,BW,KW⟩:=hcut
      clear AD AF1 AC0 B1 K3
      refine zz3 G1.out ?_;intros
      go_upto_region 16 with (fail)
      obtain ⟨y1,hy1⟩ : ∃ y,y = wrap64 (x1 + 1):=⟨_,rfl⟩
      have Ay:=aS hy1
      rw [← hy1]
      clear hy1
      refine dGen (fun W => Aside0 (Kd.S k60 60 W w0.heap.size ok (.slice A0 l1.length c0) l1) ∧ Aside0 (W.heap[go]? = some (.cells #[.int .i64 x0,.int .i64 y1,.slice A0 l1.length c0] 32 (0,0))) ∧ Aside0 (W.heap[gu]? = some (.cells #[.int .i64 u0,.int .i64 u1,.slice AU lU.length cU] 38 (0,0))) ∧ Aside0 (Below w0.heap.size w0 W) ∧ Aside0 (Kept w W (fun k_ => k_ = go ∨ some k_ = (Value.slice A0 l0.length c0).ownBlock))) ⟨⟨dSets S1.out G1.out (by decide)⟩,⟨oP G1.out⟩,⟨blk_far U1.out (p:=⟨go,1,none⟩) (Ne.symm N3.out) _⟩,⟨BW.out.setCell (p:=⟨go,1,none⟩) Agb.out _⟩,⟨KW.out.setCell (p:=⟨go,1,none⟩) (.inl (.inl rfl)) _⟩⟩ ?_
      clear S1 G1 U1 BW KW
      intro w5 ⟨S1,G1,U1,BW,KW⟩
      refine zz3 G1.out ?_;intros
      refine zz3 U1.out ?_;intros
      go_upto_region 17 with (go_at_call 53;go_loud (refine (Find.calls k A0 c0 l1 x0 y1 u0 t2 b2 go _ G1.out (Kd.S_reads' S1.out).2.2 (Kd.S_reads' S1.out).2.1 AF2.out).mono ?_;rintro e w10 ⟨rfl,hb⟩;replace S1:=aS (Kd.S_below S1.out hb);replace G1:=aS (blk_below G1.out hb);replace U1:=aS (blk_below U1.out hb);replace KW:=aS (KW.out.below hb);replace BW:=aS (BW.out.trans (dlo hb (below_size BW.out)));clear hb))
      obtain ⟨i2,rfl⟩ : ∃ i : Nat,t2 = (i : Int):=⟨t2.toNat,by have:=At2.out;omega⟩
      have Ai2:=aS (show i2 ≤ l1.length by have:=At2.out;omega)
      replace S1:=aS (Kd.S_drew S1.out)
      replace G1:=aS (blk_drew G1.out)
      replace U1:=aS (blk_drew U1.out)
      replace KW:=aS (Kept.drew KW.out)
      replace BW:=aS (below_drew1 BW.out)
      refine start_ (n:=18) (S:=fun w' => w'.cell? ⟨go,0,none⟩ = some (.int .i64 x0) ∧ w'.cell? ⟨go,1,none⟩ = some (.int .i64 y1) ∧ w'.cell? ⟨go,2,none⟩ = some (.slice A0 l1.length c0) ∧ w'.cell? ⟨gu,0,none⟩ = some (.int .i64 u0) ∧ w'.cell? ⟨gu,1,none⟩ = some (.int .i64 u1) ∧ w'.cell? ⟨gu,2,none⟩ = some (.slice AU lU.length cU)) (ds:=[17]) (bA 18 0) (by kernel_rfl) rfl rfl ⟨xc G1,xc G1,xc G1,xc U1,xc U1,xc U1⟩ (fun hHeld => ?_)
      generalize w10.drew = w11 at S1 G1 U1 KW BW hHeld ⊢
      refine pB 0 94 1 ?_
      refine pB 1 95 3 ?_
      refine pB 2 96 7 ?_
      refine pB 3 97 15 ?_
      refine tB 4 98 31 ?_
      refine pB 5 99 63 ?_
      refine tB 6 100 127 ?_
      refine pB 8 102 383 ?_
      refine pB 9 103 895 ?_
      refine pB 10 104 1919 ?_
      refine tB 11 105 3967 ?_
      refine oneB 7 101 4095 fun K hK => ?_
      refine goesS Tryz.func52 #[.agg #[.int .i64 u0,.int .i64 u1,.slice AU lU.length cU]] ?_
      with_reducible refine (impl_ownUnit.calls u0 u1 _ _ lU v0 v1 lV _ ?s1 AU2.out AO.out).mono ?_
      case s1 => exact Kd.C_below AU1.out BW.out
      rintro e w12 ⟨vV,rfl,hRV,hb⟩
      refine ⟨_,rfl,?_⟩
      have Aww:=aS KW.out.1
      have Az:=aS hb.size
      have AW:=aS (below_size BW.out)
      have SB:=aS (Kd.S_below (Kd.S_mono (Kd.S_bound S1.out) (fun k_ hk_ => (⟨hk_.1,hk_.2.2.1⟩ : ok k_ ∧ k_ < w11.heap.size))) hb)
      replace G1:=aS (blk_below G1.out hb)
      replace U1:=aS (blk_below U1.out hb)
      replace KW:=aS (KW.out.below hb)
      replace BW:=aS (BW.out.trans (dlo hb (below_size BW.out)))
      have RV:=aS hRV
      obtain ⟨AV,cV,rfl⟩:=Kd.R_slice hRV
      clear hRV hb S1
      refine hK.out _ _ (czc3 G1.out (cz3 U1.out)) (fun hHeld => ?_)
      clear hK K
      refine norm_ (a':=?_) ?_ ?_
      rotate_left
      · show Act.put _ (some 101) _ = _;go_frame;(try simp only [i64_w,i32_w]);rfl
      refine pB 12 106 8191 ?_
      refine oneB 13 107 16383 fun K hK => ?_
      refine value_ (w1:=?_) (v:=?_) (by rfl) rfl ?_ ?_
      rotate_left 2
      · go_simp
        constructor
        · rfl
        · rfl
      have hbA:=below_alloc (Below.refl w12.heap.size w12) (.cells #[.int .i64 v0,.int .i64 v1,.slice AV lV.length cV,.int .i64 y1] 60 (0,0))
      have hgv:=heap_alloc_new w12 (.cells #[.int .i64 v0,.int .i64 v1,.slice AV lV.length cV,.int .i64 y1] 60 (0,0))
      have HV:=aS (show rF (w12.alloc (.cells #[.int .i64 v0,.int .i64 v1,.slice AV lV.length cV,.int .i64 y1] 60 (0,0))) 60 w0.heap.size w12.heap.size 1 [[.int .i64 v0,.int .i64 v1,.slice AV lV.length cV,.int .i64 y1]] from ⟨Nat.le_refl _,by unfold maxLen;omega,Nat.le_trans AW.out Az.out,fun r hr => by
        rw [List.mem_singleton.1 hr]
        exact ⟨rfl,by simp [Value.oneCell']⟩,#[.int .i64 v0,.int .i64 v1,.slice AV lV.length cV,.int .i64 y1],hgv,rfl,rfl⟩)
      replace SB:=aS (Kd.S_below SB.out hbA)
      replace RV:=aS (Kd.R_below RV.out hbA)
      replace G1:=aS (blk_below G1.out hbA)
      replace U1:=aS (blk_below U1.out hbA)
      replace KW:=aS (KW.out.below hbA)
      replace BW:=aS (BW.out.trans (dlo hbA (below_size BW.out)))
      have Agv:=aS Az.out
      have Aw12:=aS hbA.size
      clear hbA hgv
      generalize w12.alloc (.cells #[.int .i64 v0,.int .i64 v1,.slice AV lV.length cV,.int .i64 y1] 60 (0,0)) = w13 at HV SB RV G1 U1 KW BW Aw12 ⊢
      generalize w12.heap.size = gv at HV Agv Aw12 ⊢
      refine hK.out _ _ (czc3 G1.out (cz3 U1.out)) (fun hHeld => ?_)
      clear hK K
      refine norm_ (a':=?_) ?_ ?_
      rotate_left
      · show Act.put _ (some 107) _ = _;go_frame;(try simp only [i64_w,i32_w]);rfl
      have hRb:=Kd.R_base RV.out
      have hM : k60.M w13 w0.heap.size (fun k_ => some k_ = (Value.slice AV lV.length cV).ownBlock) (⟨⟨v0,v1,lV⟩,y1⟩ : S60) [.int .i64 v0,.int .i64 v1,.slice AV lV.length cV,.int .i64 y1]:=k60_mkM _ _ _ (⟨⟨v0,v1,lV⟩,y1⟩ : S60) (Kd.R_lower (Kd.R_tight rfl RV.out) AW.out)
      have AM:=aS hM
      have Arb:=aS hRb
      clear hM hRb
      refine oneB 14 108 32767 fun K hK => ?_
      refine goesS Tryz.func55 #[.slice A0 l1.length c0,.int .i64 (i2 : Int),.slice (some ⟨gv,0,none⟩) 1 1] ?_
      with_reducible refine (Ins.calls A0 c0 l1 i2 gv 1 (⟨⟨v0,v1,lV⟩,y1⟩ : S60) [.int .i64 v0,.int .i64 v1,.slice AV lV.length cV,.int .i64 y1] (fun k_ => ok k_ ∧ k_ < w11.heap.size) (fun k_ => some k_ = (Value.slice AV lV.length cV).ownBlock) w0 _ BW.out SB.out AM.out ?i1 HV.out ?i2 Ai2.out ?i3).mono ?_
      case i1 => exact fun k_ hk_ h2_ => Nat.lt_irrefl _ (Nat.lt_of_lt_of_le h2_.2 (Arb.out k_ hk_.symm))
      case i2 => exact fun h_ => Nat.lt_irrefl _ (Nat.lt_of_lt_of_le h_.2 Agv.out)
      case i3 => exact Nat.le_trans Al1.out Al.out
      rintro e w14 ⟨vI,rfl,hS14,hB14,hK14⟩
      obtain ⟨lN,hlN⟩ : ∃ l,l = l1.take i2 ++ [(⟨⟨v0,v1,lV⟩,y1⟩ : S60)] ++ l1.drop i2:=⟨_,rfl⟩
      rw [← hlN] at hS14
      have AN:=aS hlN
      clear hlN
      refine ⟨_,rfl,?_⟩
      have NG:=aS (Kd.S_ne SB.out G1.out (by decide))
      have NU:=aS (Kd.S_ne SB.out U1.out (by decide))
      replace G1:=aS (blk_kept G1.out hK14 NG.out)
      replace U1:=aS (blk_kept U1.out hK14 NU.out)
      have S14:=aS hS14
      have B14:=aS hB14
      have K14:=aS hK14
      obtain ⟨AI,cI,rfl⟩:=Kd.S_slice hS14
      clear hS14 hB14 hK14
      refine hK.out _ _ (czc3 G1.out (cz3 U1.out)) (fun hHeld => ?_)
      clear hK K
      refine norm_ (a':=?_) ?_ ?_
      rotate_left
      · show Act.put _ (some 108) _ = _;go_frame;(try simp only [i64_w,i32_w]);rfl
      refine pB 15 109 65535 ?_
      refine pB 16 110 131071 ?_
      refine zz3 G1.out ?_;intros
      refine last_ (i:=17) (N:=none) (bA 18 262143) rfl rfl (by kernel_rfl) (by decide) (fun K hK => ?_)
      refine skip_ (w1:=?_) (by rfl) rfl ?_ ?_
      rotate_left
      · go_simp;rfl
      refine hK.out _ _ ?_
      clear hK K
      refine done_ (by kernel_rfl) ?_
      clear hHeld
      go_wp2
      go_ret
      rw [← Ay.out]
      simp only [Int.toNat_natCast]
      rw [← AN.out]
      refine ⟨AI,cI,rfl,oP G1.out,Kd.S_mono (dSets S14.out G1.out (by decide)) (fun k_ hk_ => ?_),B14.out.setCell (p:=⟨go,2,none⟩) Agb.out _,((KW.out.then_ K14.out (fun k_ hk_ => .inl (.inr ?_))).setCell (p:=⟨go,2,none⟩) (.inl (.inl rfl)) _).mono (fun k_ hk_ => hk_.elim .inl (fun h_ => .inr ((Kd.S_R AS.out).1 k_ h_.symm)))⟩
      · rcases hk_ with h_ | h_ | h_
        · exact .inl h_.1
        · exact .inr (Nat.le_trans Aww.out (Arb.out k_ h_.symm))
        · exact .inr (Nat.le_trans Aww.out (Nat.le_trans Agv.out (Nat.le_trans Aw12.out h_)))
      · cases A0 <;> exact hk_
def impl_PutUnit.f (k : Nat) (a0_0 a0_1 : Int) (l0_2 : List S60) (a1_0 a1_1 : Int) (l1_2 : List S70) : Option (Int × Int × List S60 × Bool) :=
  (impl_GoodStore.f k a0_0 a0_1 l0_2).bind fun t1 => if t1 = true then (impl_GoodUnit.f k a1_0 a1_1 l1_2).bind fun t2 => (if t2 = true then
    (impl_ownStore.f k a0_0 a0_1 l0_2).bind fun b => (impl_put.f k b.1 b.2.1 b.2.2 a1_0 a1_1 l1_2).bind fun p => (if p.2.2 = true then some (b.1,p.1,p.2.1,true) else some (0,0,[],false))
    else some (0,0,[],false)) else some (0,0,[],false)
set_option maxHeartbeats 8000000 in
set_option maxRecDepth 100000 in
theorem impl_PutUnit.calls (k : Nat) (a0_0 : Int) (a0_1 : Int) (A0_2 : Option Addr) (c0_2 : Nat) (l0_2 : List S60) (a1_0 : Int) (a1_1 : Int) (A1_2 : Option Addr) (c1_2 : Nat) (l1_2 : List S70) (r1 : Int) (r2 : Int) (r3 : List S60) (r4 : Bool) (w : World) (hr0_2 : Kd.C k60 w A0_2 l0_2.length l0_2) (hc0_2 : l0_2.length ≤ c0_2) (hr1_2 : Kd.C k70 w A1_2 l1_2.length l1_2) (hc1_2 : l1_2.length ≤ c1_2) (h : impl_PutUnit.f k a0_0 a0_1 l0_2 a1_0 a1_1 l1_2 = some (r1,r2,r3,r4)) :
    Calls Tryz.prog 9 #[.agg #[.int .i64 a0_0,.int .i64 a0_1,.slice A0_2 l0_2.length c0_2],.agg #[.int .i64 a1_0,.int .i64 a1_1,.slice A1_2 l1_2.length c1_2]] w fun e w' => ∃ v2_ : Value,e = .returned (.tuple #[.agg #[.int .i64 r1,.int .i64 r2,v2_],.bool r4]) ∧ Kd.S k60 60 w' w.heap.size (fun _ => True) v2_ r3 ∧ Below w.heap.size w w':=by
  have hu61:=Tryz.underlying32
  have hu41:=Tryz.underlying38
  unfold impl_PutUnit.f at h
  have HC:=aS hr0_2
  have Hc:=aS hc0_2
  have HC1:=aS hr1_2
  have Hc1:=aS hc1_2
  clear hr0_2 hc0_2 hr1_2 hc1_2
  replace h:=bE h;obtain ⟨t1,hG,h⟩:=h
  go_enter Tryz.func9,Tryz.ntmps9
  have BW:=aS (Below.refl w.heap.size w)
  go_upto_region 1 with (first | ((with_reducible refine gD 4 rfl ?_);go_loud (refine bY #[.int .i64 0,.int .i64 0,.slice none 0 0] 32 ?_;intro g4 hg_ w4 hbx hb;have L4:=aS (Nat.le_trans (below_size BW.out) (Nat.le_of_eq hg_.symm));have n2_4:=aS (Nat.ne_of_lt (by rw [hg_];exact blk_lt K2.out : g2 < g4));have n3_4:=aS (Nat.ne_of_lt (by rw [hg_];exact blk_lt K3.out : g3 < g4));replace K2:=aS (blk_below K2.out hb);replace K3:=aS (blk_below K3.out hb);replace BW:=aS (dZ BW.out hb);have K4:=aS hbx;clear hg_ hb hbx;skip)) | ((with_reducible refine gD 3 rfl ?_);go_loud (refine bY #[.int .i64 a1_0,.int .i64 a1_1,.slice A1_2 l1_2.length c1_2] 38 ?_;intro g3 hg_ w3 hbx hb;have L3:=aS (Nat.le_trans (below_size BW.out) (Nat.le_of_eq hg_.symm));have n2_3:=aS (Nat.ne_of_lt (by rw [hg_];exact blk_lt K2.out : g2 < g3));replace K2:=aS (blk_below K2.out hb);replace BW:=aS (dZ BW.out hb);have K3:=aS hbx;clear hg_ hb hbx;skip)) | ((with_reducible refine gD 2 rfl ?_);go_loud (refine bY #[.int .i64 a0_0,.int .i64 a0_1,.slice A0_2 l0_2.length c0_2] 32 ?_;intro g2 hg_ w2 hbx hb;have L2:=aS (Nat.le_trans (below_size BW.out) (Nat.le_of_eq hg_.symm));replace BW:=aS (dZ BW.out hb);have K2:=aS hbx;clear hg_ hb hbx;skip)))
  refine zz3 K2.out ?_;intros;refine zz3 K3.out ?_;intros
  by_cases ht1 : t1 = true
  rotate_left
  · rw [if_neg ht1] at h
    replace ht1:=Bool.eq_false_iff.mpr ht1
    subst ht1
    simp only [Option.some.injEq,Prod.mk.injEq] at h
    obtain ⟨rfl,rfl,rfl,rfl⟩:=h
    go_wp2_with (first | (go_at_call 23;go_loud ((with_reducible refine (impl_GoodStore.calls k a0_0 a0_1 _ _ l0_2 _ _ ?s1 Hc.out hG).mono ?_);(case s1 => exact Kd.C_below HC.out BW.out);rintro e w11 ⟨rfl,hb⟩;replace K2:=aS (blk_below K2.out hb);replace K3:=aS (blk_below K3.out hb);replace K4:=aS (blk_below K4.out hb);replace BW:=aS (dZ BW.out hb);refine zz3 K2.out ?_;intros;refine zz3 K3.out ?_;intros;refine zz3 K4.out ?_;intros;clear hb)))
    refine bodyPost_ret (results_ct rfl _ _ g4 32 #[.int .i64 0,.int .i64 0,.slice none 0 0] (0,0) _ rfl (oP K4.out) Tryz.underlying32 rfl (by kernel_rfl)) rfl ?_
    exact ⟨_,oE,Kd.S_nil _ _ _ _ _,by repeat (first | exact BW.out | refine below_set ?_ L4.out | apply pw_below_drewN)⟩
  · subst ht1
    rw [if_pos rfl] at h
    replace h:=bE h;obtain ⟨t2,h2,h⟩:=h
    by_cases ht2 : t2 = true
    rotate_left
    · rw [if_neg ht2] at h
      replace ht2:=Bool.eq_false_iff.mpr ht2
      subst ht2
      simp only [Option.some.injEq,Prod.mk.injEq] at h
      obtain ⟨rfl,rfl,rfl,rfl⟩:=h
      go_wp2_with (first | (go_at_call 24;go_loud ((with_reducible refine (impl_GoodUnit.calls k a1_0 a1_1 _ _ l1_2 _ _ ?s1 Hc1.out h2).mono ?_);(case s1 => exact Kd.C_below HC1.out BW.out);rintro e w12 ⟨rfl,hb⟩;replace K2:=aS (blk_below K2.out hb);replace K3:=aS (blk_below K3.out hb);replace K4:=aS (blk_below K4.out hb);replace BW:=aS (dZ BW.out hb);refine zz3 K2.out ?_;intros;refine zz3 K3.out ?_;intros;refine zz3 K4.out ?_;intros;clear hb)) | (go_at_call 23;go_loud ((with_reducible refine (impl_GoodStore.calls k a0_0 a0_1 _ _ l0_2 _ _ ?s1 Hc.out hG).mono ?_);(case s1 => exact Kd.C_below HC.out BW.out);rintro e w11 ⟨rfl,hb⟩;replace K2:=aS (blk_below K2.out hb);replace K3:=aS (blk_below K3.out hb);replace K4:=aS (blk_below K4.out hb);replace BW:=aS (dZ BW.out hb);refine zz3 K2.out ?_;intros;refine zz3 K3.out ?_;intros;refine zz3 K4.out ?_;intros;clear hb)))
      refine bodyPost_ret (results_ct rfl _ _ g4 32 #[.int .i64 0,.int .i64 0,.slice none 0 0] (0,0) _ rfl (oP K4.out) Tryz.underlying32 rfl (by kernel_rfl)) rfl ?_
      exact ⟨_,oE,Kd.S_nil _ _ _ _ _,by repeat (first | exact BW.out | refine below_set ?_ L4.out | apply pw_below_drewN)⟩
    · subst ht2
      rw [if_pos rfl] at h
      replace h:=bE h;obtain ⟨⟨b1,b2,lB⟩,hO,h⟩:=h
      dsimp only at h
      replace h:=bE h;obtain ⟨⟨p1,lP,p3⟩,hP,h⟩:=h
      dsimp only at h
      go_upto_region 3 with (first | (go_at_call 24;go_loud ((with_reducible refine (impl_GoodUnit.calls k a1_0 a1_1 _ _ l1_2 _ _ ?s1 Hc1.out h2).mono ?_);(case s1 => exact Kd.C_below HC1.out BW.out);rintro e w12 ⟨rfl,hb⟩;replace K2:=aS (blk_below K2.out hb);replace K3:=aS (blk_below K3.out hb);replace K4:=aS (blk_below K4.out hb);replace BW:=aS (dZ BW.out hb);refine zz3 K2.out ?_;intros;refine zz3 K3.out ?_;intros;refine zz3 K4.out ?_;intros;clear hb)) | (go_at_call 23;go_loud ((with_reducible refine (impl_GoodStore.calls k a0_0 a0_1 _ _ l0_2 _ _ ?s1 Hc.out hG).mono ?_);(case s1 => exact Kd.C_below HC.out BW.out);rintro e w11 ⟨rfl,hb⟩;replace K2:=aS (blk_below K2.out hb);replace K3:=aS (blk_below K3.out hb);replace K4:=aS (blk_below K4.out hb);replace BW:=aS (dZ BW.out hb);refine zz3 K2.out ?_;intros;refine zz3 K3.out ?_;intros;refine zz3 K4.out ?_;intros;clear hb)))
      refine dGen (fun W => Aside0 (Below w.heap.size w W) ∧ Aside0 (W.heap[g2]? = some (.cells #[.int .i64 a0_0,.int .i64 a0_1,.slice A0_2 l0_2.length c0_2] 32 (0,0))) ∧ Aside0 (W.heap[g3]? = some (.cells #[.int .i64 a1_0,.int .i64 a1_1,.slice A1_2 l1_2.length c1_2] 38 (0,0))) ∧ Aside0 (W.heap[g4]? = some (.cells #[.int .i64 0,.int .i64 0,.slice none 0 0] 32 (0,0)))) ⟨⟨by repeat (first | exact BW.out | apply pw_below_drewN)⟩,⟨oP K2.out⟩,⟨oP K3.out⟩,⟨oP K4.out⟩⟩ ?_
      clear BW K2 K3 K4
      intro w13 ⟨BW,K2,K3,K4⟩
      have BV:=BW
      have N4:=aS (blk_lt K4.out)
      refine zz3 K2.out ?_;intros
      go_upto_region 4 with (first | ((with_reducible refine gD 6 rfl ?_);go_loud (refine bY #[.int .i64 0,.int .i64 0,.slice none 0 0] 32 ?_;intro g6 hg_ w15 hbx hb;have L6:=aS (Nat.le_trans (below_size HB9.out) (Nat.le_of_eq hg_.symm));have n2_6:=aS (Nat.ne_of_lt (by rw [hg_];exact blk_lt K2.out : g2 < g6));have n3_6:=aS (Nat.ne_of_lt (by rw [hg_];exact blk_lt K3.out : g3 < g6));have n4_6:=aS (Nat.ne_of_lt (by rw [hg_];exact blk_lt K4.out : g4 < g6));replace K2:=aS (blk_below K2.out hb);replace K3:=aS (blk_below K3.out hb);replace K4:=aS (blk_below K4.out hb);replace BW:=aS (dZ BW.out hb);replace HB9:=aS (dZ HB9.out hb);replace HS9:=aS (Kd.S_below HS9.out hb);have K6:=aS hbx;clear hg_ hb hbx;refine zz3 K6.out ?_;intros)) | (go_at_call 25;go_loud ((with_reducible refine (impl_ownStore.calls k a0_0 a0_1 _ _ l0_2 b1 b2 lB _ ?s1 Hc.out hO).mono ?_);(case s1 => exact Kd.C_below HC.out BW.out);rintro e w14 ⟨vB,rfl,hS,hb⟩;replace K2:=aS (blk_below K2.out hb);replace K3:=aS (blk_below K3.out hb);replace K4:=aS (blk_below K4.out hb);replace BW:=aS (dZ BW.out hb);have HB9:=aS hb;have HS9:=aS hS;obtain ⟨AB,cB,rfl⟩:=Kd.S_slice hS;clear hS hb)))
      refine dGen (fun W => Aside0 (W.heap[g3]? = some (.cells #[.int .i64 a1_0,.int .i64 a1_1,.slice A1_2 l1_2.length c1_2] 38 (0,0))) ∧ Aside0 (W.heap[g4]? = some (.cells #[.int .i64 0,.int .i64 0,.slice none 0 0] 32 (0,0))) ∧ Aside0 (W.heap[g6]? = some (.cells #[.int .i64 b1,.int .i64 b2,.slice AB lB.length cB] 32 (0,0))) ∧ Aside0 (Below w13.heap.size w13 W) ∧ Aside0 (Kd.S k60 60 W w13.heap.size (fun _ => True) (.slice AB lB.length cB) lB)) ⟨⟨oP K3.out⟩,⟨oP K4.out⟩,⟨oP K6.out⟩,⟨by repeat (first | exact HB9.out | refine below_set ?_ L6.out | apply pw_below_drewN)⟩,⟨dSets HS9.out K6.out (by decide)⟩⟩ ?_
      clear K2 K3 K4 K6 HB9 HS9
      intro w16 ⟨K3,K4,K6,HB9,HS9⟩
      refine zz3 K3.out ?_;intros
      by_cases hp : p3 = true
      · subst hp
        rw [if_pos rfl] at h
        simp only [Option.some.injEq,Prod.mk.injEq] at h
        obtain ⟨rfl,rfl,rfl,rfl⟩:=h
        go_wp2_with (first | (go_at_call 26;go_loud ((with_reducible refine (Put.calls k AB cB lB b1 b2 a1_0 a1_1 A1_2 c1_2 l1_2 g6 (fun k_ => w13.heap.size ≤ k_) p1 lP _ w13 _ HB9.out (Kd.S_mono (Kd.S_bound HS9.out) (fun k_ hk_ => hk_.2.1)) K6.out L6.out (Kd.C_below HC1.out BV.out) Hc1.out hP).mono ?_);rintro e w20 ⟨AP,cP,rfl,hg,hS,hb,hk⟩;have HS20:=aS hS;have HB20:=aS hb;have K420:=aS (blk_kept K4.out hk (fun h_ => h_.elim n4_6.out (fun h2_ => Nat.lt_irrefl _ (Nat.lt_of_lt_of_le N4.out h2_))));refine zz3 hg ?_;intros;refine zz3 K420.out ?_;intros;clear hS hb hk)))
        refine bodyPost_ret (results_ct rfl _ _ g4 32 #[.int .i64 b1,.int .i64 p1,.slice AP lP.length cP] (0,0) _ rfl (oP K420.out) Tryz.underlying32 rfl (by kernel_rfl)) rfl ?_
        exact ⟨_,oE,dSets (Kd.S_mono (Kd.S_lower HS20.out (below_size BV.out)) (fun _ _ => trivial : ∀ k_,_ → (fun _ => True) k_)) K420.out (by decide),by repeat (first | exact dZ BV.out HB20.out | refine below_set ?_ L4.out | apply pw_below_drewN)⟩
      · rw [if_neg hp] at h
        replace hp:=Bool.eq_false_iff.mpr hp
        subst hp
        simp only [Option.some.injEq,Prod.mk.injEq] at h
        obtain ⟨rfl,rfl,rfl,rfl⟩:=h
        go_wp2_with (first | (go_at_call 26;go_loud ((with_reducible refine (Put.calls k AB cB lB b1 b2 a1_0 a1_1 A1_2 c1_2 l1_2 g6 (fun k_ => w13.heap.size ≤ k_) p1 lP _ w13 _ HB9.out (Kd.S_mono (Kd.S_bound HS9.out) (fun k_ hk_ => hk_.2.1)) K6.out L6.out (Kd.C_below HC1.out BV.out) Hc1.out hP).mono ?_);rintro e w20 ⟨AP,cP,rfl,hg,hS,hb,hk⟩;have HS20:=aS hS;have HB20:=aS hb;have K420:=aS (blk_kept K4.out hk (fun h_ => h_.elim n4_6.out (fun h2_ => Nat.lt_irrefl _ (Nat.lt_of_lt_of_le N4.out h2_))));refine zz3 hg ?_;intros;refine zz3 K420.out ?_;intros;clear hS hb hk)))
        refine bodyPost_ret (results_ct rfl _ _ g4 32 #[.int .i64 0,.int .i64 0,.slice none 0 0] (0,0) _ rfl (oP K420.out) Tryz.underlying32 rfl (by kernel_rfl)) rfl ?_
        exact ⟨_,oE,Kd.S_nil _ _ _ _ _,by repeat (first | exact dZ BV.out HB20.out | refine below_set ?_ L4.out | apply pw_below_drewN)⟩
end Go.Proofs.YtjnifnhpnccpcaaGreat.J
