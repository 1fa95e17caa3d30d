/-
  No cell of these rows narrows 'for every input' (looked for: loops, veiled, ifaces, maps, wideKeys, modest, calm, conditions, laid).
  DERIVED. THE GIVEN ROWS OF THIS SEAT. 8 by the template 'for every input the law returns true; each argument reads behind the call as it read before'; 0 by the template 'total and deterministic' (their statements: YtlebikjghlaooaaTotals.lean).
  GIVEN WITH THE SEED: the statements are not yours to turn. If you find one false, say at which input.
  Laid BY PROGRAM, IN A SANDBOX (cutbox-rows.mjs): the forced cells as the released guide's own fill.sh prints them over the translation 772ea5b010c673c3… (all of the seat's roots in one cut). By AI agents, Wed Nov 11 2026. No macro, syntax, notation, axiom, sorry.
-/
import Derived.Test.YtlebikjghlaooaaChecked
import GoSem.Claim
import GoSem.ClaimJoined
import GoSem.ClaimMapViews
import Derived.JoinedTies
import Derived.KernelRfl
namespace Go.Proofs.Ytlebikjghlaooaa
/- THE CELL 'sum', in the pinned program and in every row, IS THE sha256 OF THE DUMP (.gsa) THAT YtlebikjghlaooaaProg.lean LOADS. Nothing in Lean hashes anything: it is a label: what it is worth is what the hold of that sum in a sandbox is worth. -/
noncomputable def Try.pinned : Pinned := { name := "ytlebikjghlaooaa", sum := "772ea5b010c673c33b969b3b56f91a73e9640e6fc013d7dcaa607b58188d5c77", checked := Try.checked }
namespace Rows
def none {H : Type} : Left H := { results := [], args := [] }

/-- 'laws.FnExactSameCpu': WHATEVER THE INPUT: true; the input reads as it did. -/
def fnExactSameCpuSpec : ChangeSpec := { name := "fnExactSameCpu", fn := fun _ => fun
  | [d1, d2] => { results := [.lit (.bool true)], args := [d1, d2] }
  | _ => none }
def fnExactSameCpuRow : OpenClaim := { program := "ytlebikjghlaooaa", sum := "772ea5b010c673c33b969b3b56f91a73e9640e6fc013d7dcaa607b58188d5c77", func := "loop.example/g00389/laws.FnExactSameCpu", spec := "fnExactSameCpu", apart := false }
def FnExactSameCpuSaid : Prop := fnExactSameCpuRow.holds Try.pinned (OpenSpec.ofChange fnExactSameCpuSpec)

/-- ITS FALSE NEIGHBOUR: 'it returns false'. Refute it at one input. -/
def fnExactSameCpuWrong : ChangeSpec := { name := "fnExactSameCpu", fn := fun _ => fun
  | [d1, d2] => { results := [.lit (.bool false)], args := [d1, d2] }
  | _ => none }
def FnExactSameCpuWrongFalsely : Prop := fnExactSameCpuRow.holds Try.pinned (OpenSpec.ofChange fnExactSameCpuWrong)

/-- 'laws.FnExactGoodCpu': WHATEVER THE INPUT: true; the input reads as it did. -/
def fnExactGoodCpuSpec : ChangeSpec := { name := "fnExactGoodCpu", fn := fun _ => fun
  | [d] => { results := [.lit (.bool true)], args := [d] }
  | _ => none }
def fnExactGoodCpuRow : OpenClaim := { program := "ytlebikjghlaooaa", sum := "772ea5b010c673c33b969b3b56f91a73e9640e6fc013d7dcaa607b58188d5c77", func := "loop.example/g00389/laws.FnExactGoodCpu", spec := "fnExactGoodCpu", unfollowed := true, recurses := true, apart := false }
def FnExactGoodCpuSaid : Prop := fnExactGoodCpuRow.holds Try.pinned (OpenSpec.ofChange fnExactGoodCpuSpec)

/-- ITS FALSE NEIGHBOUR: 'it returns false'. Refute it at one input. -/
def fnExactGoodCpuWrong : ChangeSpec := { name := "fnExactGoodCpu", fn := fun _ => fun
  | [d] => { results := [.lit (.bool false)], args := [d] }
  | _ => none }
def FnExactGoodCpuWrongFalsely : Prop := fnExactGoodCpuRow.holds Try.pinned (OpenSpec.ofChange fnExactGoodCpuWrong)

/-- 'laws.FnExactGoodIrq': WHATEVER THE INPUT: true; the input reads as it did. -/
def fnExactGoodIrqSpec : ChangeSpec := { name := "fnExactGoodIrq", fn := fun _ => fun
  | [d] => { results := [.lit (.bool true)], args := [d] }
  | _ => none }
def fnExactGoodIrqRow : OpenClaim := { program := "ytlebikjghlaooaa", sum := "772ea5b010c673c33b969b3b56f91a73e9640e6fc013d7dcaa607b58188d5c77", func := "loop.example/g00389/laws.FnExactGoodIrq", spec := "fnExactGoodIrq", unfollowed := true, recurses := true, apart := false }
def FnExactGoodIrqSaid : Prop := fnExactGoodIrqRow.holds Try.pinned (OpenSpec.ofChange fnExactGoodIrqSpec)

/-- ITS FALSE NEIGHBOUR: 'it returns false'. Refute it at one input. -/
def fnExactGoodIrqWrong : ChangeSpec := { name := "fnExactGoodIrq", fn := fun _ => fun
  | [d] => { results := [.lit (.bool false)], args := [d] }
  | _ => none }
def FnExactGoodIrqWrongFalsely : Prop := fnExactGoodIrqRow.holds Try.pinned (OpenSpec.ofChange fnExactGoodIrqWrong)

/-- 'laws.FnExactInfoOf': WHATEVER THE INPUT: true; the input reads as it did. -/
def fnExactInfoOfSpec : ChangeSpec := { name := "fnExactInfoOf", fn := fun _ => fun
  | [d1, d2] => { results := [.lit (.bool true)], args := [d1, d2] }
  | _ => none }
def fnExactInfoOfRow : OpenClaim := { program := "ytlebikjghlaooaa", sum := "772ea5b010c673c33b969b3b56f91a73e9640e6fc013d7dcaa607b58188d5c77", func := "loop.example/g00389/laws.FnExactInfoOf", spec := "fnExactInfoOf", unfollowed := true, recurses := true, apart := false }
def FnExactInfoOfSaid : Prop := fnExactInfoOfRow.holds Try.pinned (OpenSpec.ofChange fnExactInfoOfSpec)

/-- ITS FALSE NEIGHBOUR: 'it returns false'. Refute it at one input. -/
def fnExactInfoOfWrong : ChangeSpec := { name := "fnExactInfoOf", fn := fun _ => fun
  | [d1, d2] => { results := [.lit (.bool false)], args := [d1, d2] }
  | _ => none }
def FnExactInfoOfWrongFalsely : Prop := fnExactInfoOfRow.holds Try.pinned (OpenSpec.ofChange fnExactInfoOfWrong)

/-- 'laws.FnExactPendingOf': WHATEVER THE INPUT: true; the input reads as it did. -/
def fnExactPendingOfSpec : ChangeSpec := { name := "fnExactPendingOf", fn := fun _ => fun
  | [d] => { results := [.lit (.bool true)], args := [d] }
  | _ => none }
def fnExactPendingOfRow : OpenClaim := { program := "ytlebikjghlaooaa", sum := "772ea5b010c673c33b969b3b56f91a73e9640e6fc013d7dcaa607b58188d5c77", func := "loop.example/g00389/laws.FnExactPendingOf", spec := "fnExactPendingOf", unfollowed := true, recurses := true, apart := false }
def FnExactPendingOfSaid : Prop := fnExactPendingOfRow.holds Try.pinned (OpenSpec.ofChange fnExactPendingOfSpec)

/-- ITS FALSE NEIGHBOUR: 'it returns false'. Refute it at one input. -/
def fnExactPendingOfWrong : ChangeSpec := { name := "fnExactPendingOf", fn := fun _ => fun
  | [d] => { results := [.lit (.bool false)], args := [d] }
  | _ => none }
def FnExactPendingOfWrongFalsely : Prop := fnExactPendingOfRow.holds Try.pinned (OpenSpec.ofChange fnExactPendingOfWrong)

/-- 'laws.FnExactVectorAt': WHATEVER THE INPUT: true; the input reads as it did. -/
def fnExactVectorAtSpec : ChangeSpec := { name := "fnExactVectorAt", fn := fun _ => fun
  | [d1, d2] => { results := [.lit (.bool true)], args := [d1, d2] }
  | _ => none }
def fnExactVectorAtRow : OpenClaim := { program := "ytlebikjghlaooaa", sum := "772ea5b010c673c33b969b3b56f91a73e9640e6fc013d7dcaa607b58188d5c77", func := "loop.example/g00389/laws.FnExactVectorAt", spec := "fnExactVectorAt", unfollowed := true, recurses := true, apart := false }
def FnExactVectorAtSaid : Prop := fnExactVectorAtRow.holds Try.pinned (OpenSpec.ofChange fnExactVectorAtSpec)

/-- ITS FALSE NEIGHBOUR: 'it returns false'. Refute it at one input. -/
def fnExactVectorAtWrong : ChangeSpec := { name := "fnExactVectorAt", fn := fun _ => fun
  | [d1, d2] => { results := [.lit (.bool false)], args := [d1, d2] }
  | _ => none }
def FnExactVectorAtWrongFalsely : Prop := fnExactVectorAtRow.holds Try.pinned (OpenSpec.ofChange fnExactVectorAtWrong)

/-- 'laws.FnExactNewIrq': WHATEVER THE INPUT: true; the input reads as it did. -/
def fnExactNewIrqSpec : ChangeSpec := { name := "fnExactNewIrq", fn := fun _ => fun
  | [d] => { results := [.lit (.bool true)], args := [d] }
  | _ => none }
def fnExactNewIrqRow : OpenClaim := { program := "ytlebikjghlaooaa", sum := "772ea5b010c673c33b969b3b56f91a73e9640e6fc013d7dcaa607b58188d5c77", func := "loop.example/g00389/laws.FnExactNewIrq", spec := "fnExactNewIrq", unfollowed := true, recurses := true, apart := false }
def FnExactNewIrqSaid : Prop := fnExactNewIrqRow.holds Try.pinned (OpenSpec.ofChange fnExactNewIrqSpec)

/-- ITS FALSE NEIGHBOUR: 'it returns false'. Refute it at one input. -/
def fnExactNewIrqWrong : ChangeSpec := { name := "fnExactNewIrq", fn := fun _ => fun
  | [d] => { results := [.lit (.bool false)], args := [d] }
  | _ => none }
def FnExactNewIrqWrongFalsely : Prop := fnExactNewIrqRow.holds Try.pinned (OpenSpec.ofChange fnExactNewIrqWrong)

/-- 'laws.FnExactSetLine': WHATEVER THE INPUT: true; the input reads as it did. -/
def fnExactSetLineSpec : ChangeSpec := { name := "fnExactSetLine", fn := fun _ => fun
  | [d1, d2] => { results := [.lit (.bool true)], args := [d1, d2] }
  | _ => none }
def fnExactSetLineRow : OpenClaim := { program := "ytlebikjghlaooaa", sum := "772ea5b010c673c33b969b3b56f91a73e9640e6fc013d7dcaa607b58188d5c77", func := "loop.example/g00389/laws.FnExactSetLine", spec := "fnExactSetLine", unfollowed := true, recurses := true, apart := false }
def FnExactSetLineSaid : Prop := fnExactSetLineRow.holds Try.pinned (OpenSpec.ofChange fnExactSetLineSpec)

/-- ITS FALSE NEIGHBOUR: 'it returns false'. Refute it at one input. -/
def fnExactSetLineWrong : ChangeSpec := { name := "fnExactSetLine", fn := fun _ => fun
  | [d1, d2] => { results := [.lit (.bool false)], args := [d1, d2] }
  | _ => none }
def FnExactSetLineWrongFalsely : Prop := fnExactSetLineRow.holds Try.pinned (OpenSpec.ofChange fnExactSetLineWrong)

/- THE SECOND FORM. 'bulk': how many values and letters a reading holds, each counted each time it is reached (what is shared counts as often as it is met; a slice's spare places count too). A statement '..UptoSaid' is the law's where the arguments, and the package variables that the reading takes, are together of bulk at most 1048576: NARROWER than '..Said'. Prove '..Said' where nothing that the law and all that it calls make is longer than what came in: it says more and counts as full. Else prove '..UptoSaid'. A law counts once. -/
mutual
def uptoBulk {H : Type} : DataW H → Nat
  | .lit (.string bytes) => bytes.length + 1
  | .lit _ => 1
  | .nil => 1
  | .ptr d => uptoBulk d + 1
  | .slice elems spare => uptoBulkAll elems + uptoBulkAll spare + 1
  | .agg parts => uptoBulkAll parts + 1
  | .iface _ d => uptoBulk d + 1
  | .map entries => uptoBulkEntries entries + 1
  | .held _ => 1
def uptoBulkAll {H : Type} : List (DataW H) → Nat
  | [] => 0
  | d :: r => uptoBulk d + uptoBulkAll r
def uptoBulkEntries {H : Type} : List (Lit × DataW H) → Nat
  | [] => 0
  | x :: r => uptoBulkEntry x + uptoBulkEntries r
def uptoBulkEntry {H : Type} : Lit × DataW H → Nat
  | (.string bytes, d) => bytes.length + uptoBulk d + 1
  | (_, d) => uptoBulk d + 1
 end
def uptoSmall : (H : Type) → List (DataW H) → Bool := fun _ ds => decide (uptoBulkAll ds ≤ 1048576)
def OpenSpec.upto (s : _root_.Go.ChangeSpec) : _root_.Go.OpenSpec := { _root_.Go.OpenSpec.ofChange s with cond := some uptoSmall }

/-- 'laws.FnExactSameCpu', WHERE WHAT IT READS IS OF BULK AT MOST 1048576: true; the input reads as it did. -/
def fnExactSameCpuUptoRow : OpenClaim := { program := "ytlebikjghlaooaa", sum := "772ea5b010c673c33b969b3b56f91a73e9640e6fc013d7dcaa607b58188d5c77", func := "loop.example/g00389/laws.FnExactSameCpu", spec := "fnExactSameCpu", apart := false, narrowed := true }
def FnExactSameCpuUptoSaid : Prop := fnExactSameCpuUptoRow.holds Try.pinned (OpenSpec.upto fnExactSameCpuSpec)

/-- 'laws.FnExactGoodCpu', WHERE WHAT IT READS IS OF BULK AT MOST 1048576: true; the input reads as it did. -/
def fnExactGoodCpuUptoRow : OpenClaim := { program := "ytlebikjghlaooaa", sum := "772ea5b010c673c33b969b3b56f91a73e9640e6fc013d7dcaa607b58188d5c77", func := "loop.example/g00389/laws.FnExactGoodCpu", spec := "fnExactGoodCpu", unfollowed := true, recurses := true, apart := false, narrowed := true }
def FnExactGoodCpuUptoSaid : Prop := fnExactGoodCpuUptoRow.holds Try.pinned (OpenSpec.upto fnExactGoodCpuSpec)

/-- 'laws.FnExactGoodIrq', WHERE WHAT IT READS IS OF BULK AT MOST 1048576: true; the input reads as it did. -/
def fnExactGoodIrqUptoRow : OpenClaim := { program := "ytlebikjghlaooaa", sum := "772ea5b010c673c33b969b3b56f91a73e9640e6fc013d7dcaa607b58188d5c77", func := "loop.example/g00389/laws.FnExactGoodIrq", spec := "fnExactGoodIrq", unfollowed := true, recurses := true, apart := false, narrowed := true }
def FnExactGoodIrqUptoSaid : Prop := fnExactGoodIrqUptoRow.holds Try.pinned (OpenSpec.upto fnExactGoodIrqSpec)

/-- 'laws.FnExactInfoOf', WHERE WHAT IT READS IS OF BULK AT MOST 1048576: true; the input reads as it did. -/
def fnExactInfoOfUptoRow : OpenClaim := { program := "ytlebikjghlaooaa", sum := "772ea5b010c673c33b969b3b56f91a73e9640e6fc013d7dcaa607b58188d5c77", func := "loop.example/g00389/laws.FnExactInfoOf", spec := "fnExactInfoOf", unfollowed := true, recurses := true, apart := false, narrowed := true }
def FnExactInfoOfUptoSaid : Prop := fnExactInfoOfUptoRow.holds Try.pinned (OpenSpec.upto fnExactInfoOfSpec)

/-- 'laws.FnExactPendingOf', WHERE WHAT IT READS IS OF BULK AT MOST 1048576: true; the input reads as it did. -/
def fnExactPendingOfUptoRow : OpenClaim := { program := "ytlebikjghlaooaa", sum := "772ea5b010c673c33b969b3b56f91a73e9640e6fc013d7dcaa607b58188d5c77", func := "loop.example/g00389/laws.FnExactPendingOf", spec := "fnExactPendingOf", unfollowed := true, recurses := true, apart := false, narrowed := true }
def FnExactPendingOfUptoSaid : Prop := fnExactPendingOfUptoRow.holds Try.pinned (OpenSpec.upto fnExactPendingOfSpec)

/-- 'laws.FnExactVectorAt', WHERE WHAT IT READS IS OF BULK AT MOST 1048576: true; the input reads as it did. -/
def fnExactVectorAtUptoRow : OpenClaim := { program := "ytlebikjghlaooaa", sum := "772ea5b010c673c33b969b3b56f91a73e9640e6fc013d7dcaa607b58188d5c77", func := "loop.example/g00389/laws.FnExactVectorAt", spec := "fnExactVectorAt", unfollowed := true, recurses := true, apart := false, narrowed := true }
def FnExactVectorAtUptoSaid : Prop := fnExactVectorAtUptoRow.holds Try.pinned (OpenSpec.upto fnExactVectorAtSpec)

/-- 'laws.FnExactNewIrq', WHERE WHAT IT READS IS OF BULK AT MOST 1048576: true; the input reads as it did. -/
def fnExactNewIrqUptoRow : OpenClaim := { program := "ytlebikjghlaooaa", sum := "772ea5b010c673c33b969b3b56f91a73e9640e6fc013d7dcaa607b58188d5c77", func := "loop.example/g00389/laws.FnExactNewIrq", spec := "fnExactNewIrq", unfollowed := true, recurses := true, apart := false, narrowed := true }
def FnExactNewIrqUptoSaid : Prop := fnExactNewIrqUptoRow.holds Try.pinned (OpenSpec.upto fnExactNewIrqSpec)

/-- 'laws.FnExactSetLine', WHERE WHAT IT READS IS OF BULK AT MOST 1048576: true; the input reads as it did. -/
def fnExactSetLineUptoRow : OpenClaim := { program := "ytlebikjghlaooaa", sum := "772ea5b010c673c33b969b3b56f91a73e9640e6fc013d7dcaa607b58188d5c77", func := "loop.example/g00389/laws.FnExactSetLine", spec := "fnExactSetLine", unfollowed := true, recurses := true, apart := false, narrowed := true }
def FnExactSetLineUptoSaid : Prop := fnExactSetLineUptoRow.holds Try.pinned (OpenSpec.upto fnExactSetLineSpec)

end Rows
end Go.Proofs.Ytlebikjghlaooaa
