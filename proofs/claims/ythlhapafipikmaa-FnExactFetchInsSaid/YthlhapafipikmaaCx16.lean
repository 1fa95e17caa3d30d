-- Made by this session's program gprint.py out of the translation. Not trusted: Lean checks it.
import Derived.Test.YthlhapafipikmaaCx0
namespace Go.Proofs.Ythlhapafipikmaa.C
open Go.RowKit Go.Proofs.YthlhapafipikmaaW.PrintWords Go.Proofs.YthlhapafipikmaaW.PrintLast Go.Proofs.YthlhapafipikmaaW.PrintMore
attribute [local go_sem] max2_int min2_int max_two min_two max_three min_three max_four min_four   -- for this text's walks alone
set_option linter.unusedVariables false
set_option linter.unusedSimpArgs false

/-! ### l10M_fineAt: function 29 (by hand) -/
def l10M_fineAt.f (a : Int) : Option Bool := some (a == 0)
set_option maxHeartbeats 8000000 in
set_option maxRecDepth 100000 in
theorem l10M_fineAt.calls (a : Int) (r : Bool) (w : World) (h : l10M_fineAt.f a = some r) (g t : Nat) (cs : Array Value) (hg : w.heap[g]? = some (.cells cs t (0,0))) (h1 : cs[11]? = some (.int .i64 a)) :
    Calls Try.prog 29 #[.pointer (some ⟨g,0,none⟩)] w fun e w' => e = .returned (.bool r) ∧ Drawn0 w w' := by
  have hu1 := Try.underlying88;have hu2 := Try.underlying50;have hc1 : w.cell? ⟨g,11,none⟩ = some (.int .i64 a) := (blk_cell hg 11).trans h1;unfold l10M_fineAt.f at h;obtain rfl := Option.some.inj h;clear h;go_enter Try.func29,Try.ntmps29;go_wp2;go_ret;exact ⟨by first | rfl | (simp;done) | (simp [*];done),by repeat (first | exact Drawn0.refl _ | apply Drawn0.step)⟩

end Go.Proofs.Ythlhapafipikmaa.C
