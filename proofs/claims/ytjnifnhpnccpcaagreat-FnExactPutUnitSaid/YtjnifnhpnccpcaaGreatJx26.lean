-- Made by this session's program gprint.py out of the translation. Not trusted: Lean checks it.
import Derived.Test.YtjnifnhpnccpcaaGreatJx0
namespace Go.Proofs.YtjnifnhpnccpcaaGreat.J
open Go.RowKit Go.Proofs.YtjnifnhpnccpcaaGreatW.PrintWords Go.Proofs.YtjnifnhpnccpcaaGreatW.PrintLast Go.Proofs.YtjnifnhpnccpcaaGreatW.PrintMore
attribute [local go_sem] max2_int min2_int max_two min_two max_three min_three max_four min_four
set_option linter.unusedVariables false
set_option linter.unusedSimpArgs false
set_option maxHeartbeats 8000000 in
set_option maxRecDepth 100000 in
theorem GoodStore_lit.calls (y0 y1 : Int) (yv : Value) (y3 : Int) (w : World) (u : Int) (gb : Nat) (cs : Array Value) (hx : w.heap[gb]? = some (.cells cs 60 (0,0))) (hu : cs[3]? = some (.int .i64 u)) :
    Calls Tryz.prog 46 #[.agg #[.int .i64 y0,.int .i64 y1,yv,.int .i64 y3],.pointer (some ⟨gb,0,none⟩)] w fun e w' => e = .returned (.bool (decide (y3 = u))) ∧ Below w.heap.size w w':=by
  have hu1:=Tryz.underlying60;have hc : w.cell? ⟨gb,3,none⟩ = some (.int .i64 u):=(blk_cell hx 3).trans hu;have hc2 : ∀ o,(w.alloc o).cell? ⟨gb,3,none⟩ = some (.int .i64 u):=fun o => (blk_cell (blk_alloc hx o) 3).trans hu
  have HB:=aS (Below.refl w.heap.size w);go_enter Tryz.func46,Tryz.ntmps46;go_wp2;go_ret;exact ⟨oE,oL⟩
def GoodStore_used.l0 : Nat → List S60 → Int → Int → Option Int
 | 0,_,_,_ => none
 | k + 1,x0,a1,x8 => if x8 < (x0.length : Int) then (if 0 ≤ x8 then (if (rd_T60 x0 x8).f1 = a1 then some x8 else GoodStore_used.l0 k x0 a1 (wrap64 (x8 + 1))) else none) else some (-1)
def GoodStore_used.f (k : Nat) (l0 : List S60) (a1 : Int) : Option Bool:=(GoodStore_used.l0 k l0 a1 0).bind fun t => some (decide (t ≥ 0))
set_option maxHeartbeats 8000000 in
set_option maxRecDepth 100000 in
theorem GoodStore_index.calls (k : Nat) (A0 : Option Addr) (c0 : Nat) (l0 : List S60) (a1 : Int) (r : Int) (w : World) (hr0 : Kd.C k60 w A0 l0.length l0) (hc0 : l0.length ≤ c0) (h : GoodStore_used.l0 k l0 a1 0 = some r)
    (gb : Nat) (cs : Array Value) (hx : w.heap[gb]? = some (.cells cs 60 (0,0))) (hu : cs[3]? = some (.int .i64 a1)) :
  Calls Tryz.prog 68 #[.slice A0 l0.length c0,(.func (.func 46) #[] #[.pointer (some ⟨gb,0,none⟩)])] w fun e w' => e = .returned (.int .i64 r) ∧ Below w.heap.size w w':=by
 have hu77:=Tryz.underlying60;have HR0:=aS hr0;have HC0:=aS hc0;have HX:=aS hx;have HU:=aS hu;clear hr0 hc0 hx hu;have HB:=aS (Below.refl w.heap.size w);have H':=aS h;clear h;go_enter Tryz.func68,Tryz.ntmps68;go_wp2;go_loopg [8] k (fun kq v8 w' => ∃ (x8_1 : Int),v8 = .int .i64 x8_1 ∧ Aside0 (GoodStore_used.l0 kq l0 a1 x8_1 = some r) ∧ Aside0 (kq ≤ k) ∧ Aside0 (Below w.heap.size w w'))
 case atStart => exact ⟨(0),oE,H',⟨Nat.le_refl _⟩,⟨oL⟩⟩
 case round =>
  clear H';obtain ⟨x8_1,rfl,HA,HK1,HB⟩:=hrel;cases gk with
  | zero => exact absurd HA.out (by simp [GoodStore_used.l0])
  | succ k1 =>
   have H:=HA.out;clear HA;simp only [GoodStore_used.l0] at H;by_cases c3 : x8_1 < (l0.length : Int)
   ·
    rw [if_pos c3] at H;have c3b0:=decide_eq_true c3;by_cases c4 : 0 ≤ x8_1
    ·
     rw [if_pos c4] at H;have c4b0:=decide_eq_true c4;have p101 : 0 ≤ (x8_1 : Int):=c4;have q101 : x8_1 < (l0.length : Int):=c3;clear c3 c4;obtain ⟨ad101,A2,c2,e101,hx101_0,hx101_1,hx101_2,hx101_3,_,_⟩:=at_T60 HR0.out x8_1 p101 q101;cases e101
     replace hx101_0:=oJ HB hx101_0;replace hx101_1:=oJ HB hx101_1;replace hx101_2:=oJ HB hx101_2;replace hx101_3:=oJ HB hx101_3;replace p101:=eq_true p101;replace q101:=eq_true q101;by_cases c7 : (rd_T60 l0 x8_1).f1 = a1
     ·
      rw [if_pos c7] at H;obtain rfl:=Option.some.inj H;go_wp2_with (first | (go_at_call 46;(with_reducible refine (GoodStore_lit.calls _ _ _ _ _ a1 gb cs (blk_below HX.out HB.out) HU.out).mono ?_);rintro e w8 ⟨rfl,hb⟩;refine mk1 (xL hb) ?_;clear HB;intro HB;have c7b:=decide_eq_true c7));go_ret;exact ⟨oE,oL⟩
     ·
      rw [if_neg c7] at H;have H':=aS H;clear H;go_wp2_with (first | (go_at_call 46;(with_reducible refine (GoodStore_lit.calls _ _ _ _ _ a1 gb cs (blk_below HX.out HB.out) HU.out).mono ?_);rintro e w9 ⟨rfl,hb⟩;refine mk1 (xL hb) ?_;clear HB;intro HB;have c7b:=decide_eq_false c7));go_roundg k1;case measure => have:=HK1.out;omega
      case rel => exact ⟨(wrap64 (x8_1 + 1)),oE,H',⟨by have:=HK1.out;omega⟩,⟨oL⟩⟩
    · rw [if_neg c4] at H;exact absurd H (by simp)
   · rw [if_neg c3] at H;have c3b0:=decide_eq_false c3;clear c3;obtain rfl:=Option.some.inj H;go_wp2;go_ret;exact ⟨oE,oL⟩
set_option maxHeartbeats 8000000 in
set_option maxRecDepth 100000 in
theorem GoodStore_used.calls (k : Nat) (A0 : Option Addr) (c0 : Nat) (l0 : List S60) (a1 : Int) (r : Bool) (w : World) (hr0 : Kd.C k60 w A0 l0.length l0) (hc0 : l0.length ≤ c0) (h : GoodStore_used.f k l0 a1 = some r)
    (gb : Nat) (cs : Array Value) (hx : w.heap[gb]? = some (.cells cs 60 (0,0))) (hu : cs[3]? = some (.int .i64 a1)) :
  Calls Tryz.prog 45 #[.slice A0 l0.length c0,(.func (.func 46) #[] #[.pointer (some ⟨gb,0,none⟩)])] w fun e w' => e = .returned (.bool r) ∧ Below w.heap.size w w':=by
 have HR0:=aS hr0;have HC0:=aS hc0;have HX:=aS hx;have HU:=aS hu;clear hr0 hc0 hx hu;have HB:=aS (Below.refl w.heap.size w);unfold GoodStore_used.f at h;obtain ⟨t101,A30,H⟩:=bE h;have A3:=aS A30;clear A30 h;obtain rfl:=Option.some.inj H;go_enter Tryz.func45,Tryz.ntmps45;go_wp2_with (first | (go_at_call 68;(with_reducible refine (GoodStore_index.calls k _ _ l0 a1 t101 _ ?side1 ?side2 A3.out gb cs (blk_below HX.out HB.out) HU.out).mono ?_);(case side1 => repeat (first | exact HR0.out | (with_reducible refine Kd.C_alloc ?_ _) | (with_reducible refine Kd.C_drewN ?_ _) | (with_reducible refine Kd.C_drew ?_)));(case side2 => exact HC0.out);rintro e w4 ⟨rfl,hb⟩;refine mk1 (xL hb) ?_;clear HB;intro HB));go_ret;exact ⟨oE,oL⟩
end Go.Proofs.YtjnifnhpnccpcaaGreat.J
