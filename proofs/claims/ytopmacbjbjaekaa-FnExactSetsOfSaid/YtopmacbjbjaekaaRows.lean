/-
  No cell of these rows narrows 'for every input' (looked for: loops, veiled, ifaces, maps, wideKeys, modest, calm, conditions, laid).
  DERIVED. THE GIVEN ROWS OF THIS SEAT. 12 by the template 'for every input the law returns true; each argument reads behind the call as it read before'; 0 by the template 'total and deterministic' (their statements: YtopmacbjbjaekaaTotals.lean).
  GIVEN WITH THE SEED: the statements are not yours to turn. If you find one false, say at which input.
  Laid BY PROGRAM, IN A SANDBOX (cutbox-rows.mjs): the forced cells as the released guide's own fill.sh prints them over the translation 5a3bf5e70256d7e6… (all of the seat's roots in one cut). By AI agents, Wed Nov 11 2026. No macro, syntax, notation, axiom, sorry.
-/
import Derived.Test.YtopmacbjbjaekaaChecked
import GoSem.Claim
import GoSem.ClaimJoined
import GoSem.ClaimMapViews
import Derived.JoinedTies
import Derived.KernelRfl
namespace Go.Proofs.Ytopmacbjbjaekaa
/- THE CELL 'sum', in the pinned program and in every row, IS THE sha256 OF THE DUMP (.gsa) THAT YtopmacbjbjaekaaProg.lean LOADS. Nothing in Lean hashes anything: it is a label: what it is worth is what the hold of that sum in a sandbox is worth. -/
noncomputable def Try.pinned : Pinned := { name := "ytopmacbjbjaekaa", sum := "5a3bf5e70256d7e649bf169aa5a2bc9bed79cc9538f136bceea251c40d9579e5", checked := Try.checked }
namespace Rows
def none {H : Type} : Left H := { results := [], args := [] }

/-- 'laws.FnExactLazyFlags': WHATEVER THE INPUT: true; the input reads as it did. -/
def fnExactLazyFlagsSpec : ChangeSpec := { name := "fnExactLazyFlags", fn := fun _ => fun
  | [d1, d2] => { results := [.lit (.bool true)], args := [d1, d2] }
  | _ => none }
def fnExactLazyFlagsRow : OpenClaim := { program := "ytopmacbjbjaekaa", sum := "5a3bf5e70256d7e649bf169aa5a2bc9bed79cc9538f136bceea251c40d9579e5", func := "loop.example/g00389/laws.FnExactLazyFlags", spec := "fnExactLazyFlags", unfollowed := true, recurses := true, apart := false }
def FnExactLazyFlagsSaid : Prop := fnExactLazyFlagsRow.holds Try.pinned (OpenSpec.ofChange fnExactLazyFlagsSpec)

/-- ITS FALSE NEIGHBOUR: 'it returns false'. Refute it at one input. -/
def fnExactLazyFlagsWrong : ChangeSpec := { name := "fnExactLazyFlags", fn := fun _ => fun
  | [d1, d2] => { results := [.lit (.bool false)], args := [d1, d2] }
  | _ => none }
def FnExactLazyFlagsWrongFalsely : Prop := fnExactLazyFlagsRow.holds Try.pinned (OpenSpec.ofChange fnExactLazyFlagsWrong)

/-- 'laws.FnExactEagerFlags': WHATEVER THE INPUT: true; the input reads as it did. -/
def fnExactEagerFlagsSpec : ChangeSpec := { name := "fnExactEagerFlags", fn := fun _ => fun
  | [d1, d2] => { results := [.lit (.bool true)], args := [d1, d2] }
  | _ => none }
def fnExactEagerFlagsRow : OpenClaim := { program := "ytopmacbjbjaekaa", sum := "5a3bf5e70256d7e649bf169aa5a2bc9bed79cc9538f136bceea251c40d9579e5", func := "loop.example/g00389/laws.FnExactEagerFlags", spec := "fnExactEagerFlags", unfollowed := true, recurses := true, apart := false }
def FnExactEagerFlagsSaid : Prop := fnExactEagerFlagsRow.holds Try.pinned (OpenSpec.ofChange fnExactEagerFlagsSpec)

/-- ITS FALSE NEIGHBOUR: 'it returns false'. Refute it at one input. -/
def fnExactEagerFlagsWrong : ChangeSpec := { name := "fnExactEagerFlags", fn := fun _ => fun
  | [d1, d2] => { results := [.lit (.bool false)], args := [d1, d2] }
  | _ => none }
def FnExactEagerFlagsWrongFalsely : Prop := fnExactEagerFlagsRow.holds Try.pinned (OpenSpec.ofChange fnExactEagerFlagsWrong)

/-- 'laws.FnExactFlagsOf': WHATEVER THE INPUT: true; the input reads as it did. -/
def fnExactFlagsOfSpec : ChangeSpec := { name := "fnExactFlagsOf", fn := fun _ => fun
  | [d] => { results := [.lit (.bool true)], args := [d] }
  | _ => none }
def fnExactFlagsOfRow : OpenClaim := { program := "ytopmacbjbjaekaa", sum := "5a3bf5e70256d7e649bf169aa5a2bc9bed79cc9538f136bceea251c40d9579e5", func := "loop.example/g00389/laws.FnExactFlagsOf", spec := "fnExactFlagsOf", apart := false }
def FnExactFlagsOfSaid : Prop := fnExactFlagsOfRow.holds Try.pinned (OpenSpec.ofChange fnExactFlagsOfSpec)

/-- ITS FALSE NEIGHBOUR: 'it returns false'. Refute it at one input. -/
def fnExactFlagsOfWrong : ChangeSpec := { name := "fnExactFlagsOf", fn := fun _ => fun
  | [d] => { results := [.lit (.bool false)], args := [d] }
  | _ => none }
def FnExactFlagsOfWrongFalsely : Prop := fnExactFlagsOfRow.holds Try.pinned (OpenSpec.ofChange fnExactFlagsOfWrong)

/-- 'laws.FnExactCarryOf': WHATEVER THE INPUT: true; the input reads as it did. -/
def fnExactCarryOfSpec : ChangeSpec := { name := "fnExactCarryOf", fn := fun _ => fun
  | [d] => { results := [.lit (.bool true)], args := [d] }
  | _ => none }
def fnExactCarryOfRow : OpenClaim := { program := "ytopmacbjbjaekaa", sum := "5a3bf5e70256d7e649bf169aa5a2bc9bed79cc9538f136bceea251c40d9579e5", func := "loop.example/g00389/laws.FnExactCarryOf", spec := "fnExactCarryOf", apart := false }
def FnExactCarryOfSaid : Prop := fnExactCarryOfRow.holds Try.pinned (OpenSpec.ofChange fnExactCarryOfSpec)

/-- ITS FALSE NEIGHBOUR: 'it returns false'. Refute it at one input. -/
def fnExactCarryOfWrong : ChangeSpec := { name := "fnExactCarryOf", fn := fun _ => fun
  | [d] => { results := [.lit (.bool false)], args := [d] }
  | _ => none }
def FnExactCarryOfWrongFalsely : Prop := fnExactCarryOfRow.holds Try.pinned (OpenSpec.ofChange fnExactCarryOfWrong)

/-- 'laws.FnExactCondOf': WHATEVER THE INPUT: true; the input reads as it did. -/
def fnExactCondOfSpec : ChangeSpec := { name := "fnExactCondOf", fn := fun _ => fun
  | [d1, d2] => { results := [.lit (.bool true)], args := [d1, d2] }
  | _ => none }
def fnExactCondOfRow : OpenClaim := { program := "ytopmacbjbjaekaa", sum := "5a3bf5e70256d7e649bf169aa5a2bc9bed79cc9538f136bceea251c40d9579e5", func := "loop.example/g00389/laws.FnExactCondOf", spec := "fnExactCondOf", unfollowed := true, recurses := true, apart := false }
def FnExactCondOfSaid : Prop := fnExactCondOfRow.holds Try.pinned (OpenSpec.ofChange fnExactCondOfSpec)

/-- ITS FALSE NEIGHBOUR: 'it returns false'. Refute it at one input. -/
def fnExactCondOfWrong : ChangeSpec := { name := "fnExactCondOf", fn := fun _ => fun
  | [d1, d2] => { results := [.lit (.bool false)], args := [d1, d2] }
  | _ => none }
def FnExactCondOfWrongFalsely : Prop := fnExactCondOfRow.holds Try.pinned (OpenSpec.ofChange fnExactCondOfWrong)

/-- 'laws.FnExactMayWrite': WHATEVER THE INPUT: true; the input reads as it did. -/
def fnExactMayWriteSpec : ChangeSpec := { name := "fnExactMayWrite", fn := fun _ => fun
  | [d] => { results := [.lit (.bool true)], args := [d] }
  | _ => none }
def fnExactMayWriteRow : OpenClaim := { program := "ytopmacbjbjaekaa", sum := "5a3bf5e70256d7e649bf169aa5a2bc9bed79cc9538f136bceea251c40d9579e5", func := "loop.example/g00389/laws.FnExactMayWrite", spec := "fnExactMayWrite", apart := false }
def FnExactMayWriteSaid : Prop := fnExactMayWriteRow.holds Try.pinned (OpenSpec.ofChange fnExactMayWriteSpec)

/-- ITS FALSE NEIGHBOUR: 'it returns false'. Refute it at one input. -/
def fnExactMayWriteWrong : ChangeSpec := { name := "fnExactMayWrite", fn := fun _ => fun
  | [d] => { results := [.lit (.bool false)], args := [d] }
  | _ => none }
def FnExactMayWriteWrongFalsely : Prop := fnExactMayWriteRow.holds Try.pinned (OpenSpec.ofChange fnExactMayWriteWrong)

/-- 'laws.FnExactIsStraight': WHATEVER THE INPUT: true; the input reads as it did. -/
def fnExactIsStraightSpec : ChangeSpec := { name := "fnExactIsStraight", fn := fun _ => fun
  | [d] => { results := [.lit (.bool true)], args := [d] }
  | _ => none }
def fnExactIsStraightRow : OpenClaim := { program := "ytopmacbjbjaekaa", sum := "5a3bf5e70256d7e649bf169aa5a2bc9bed79cc9538f136bceea251c40d9579e5", func := "loop.example/g00389/laws.FnExactIsStraight", spec := "fnExactIsStraight", apart := false }
def FnExactIsStraightSaid : Prop := fnExactIsStraightRow.holds Try.pinned (OpenSpec.ofChange fnExactIsStraightSpec)

/-- ITS FALSE NEIGHBOUR: 'it returns false'. Refute it at one input. -/
def fnExactIsStraightWrong : ChangeSpec := { name := "fnExactIsStraight", fn := fun _ => fun
  | [d] => { results := [.lit (.bool false)], args := [d] }
  | _ => none }
def FnExactIsStraightWrongFalsely : Prop := fnExactIsStraightRow.holds Try.pinned (OpenSpec.ofChange fnExactIsStraightWrong)

/-- 'laws.FnExactMayFault': WHATEVER THE INPUT: true; the input reads as it did. -/
def fnExactMayFaultSpec : ChangeSpec := { name := "fnExactMayFault", fn := fun _ => fun
  | [d] => { results := [.lit (.bool true)], args := [d] }
  | _ => none }
def fnExactMayFaultRow : OpenClaim := { program := "ytopmacbjbjaekaa", sum := "5a3bf5e70256d7e649bf169aa5a2bc9bed79cc9538f136bceea251c40d9579e5", func := "loop.example/g00389/laws.FnExactMayFault", spec := "fnExactMayFault", apart := false }
def FnExactMayFaultSaid : Prop := fnExactMayFaultRow.holds Try.pinned (OpenSpec.ofChange fnExactMayFaultSpec)

/-- ITS FALSE NEIGHBOUR: 'it returns false'. Refute it at one input. -/
def fnExactMayFaultWrong : ChangeSpec := { name := "fnExactMayFault", fn := fun _ => fun
  | [d] => { results := [.lit (.bool false)], args := [d] }
  | _ => none }
def FnExactMayFaultWrongFalsely : Prop := fnExactMayFaultRow.holds Try.pinned (OpenSpec.ofChange fnExactMayFaultWrong)

/-- 'laws.FnExactReadsOf': WHATEVER THE INPUT: true; the input reads as it did. -/
def fnExactReadsOfSpec : ChangeSpec := { name := "fnExactReadsOf", fn := fun _ => fun
  | [d] => { results := [.lit (.bool true)], args := [d] }
  | _ => none }
def fnExactReadsOfRow : OpenClaim := { program := "ytopmacbjbjaekaa", sum := "5a3bf5e70256d7e649bf169aa5a2bc9bed79cc9538f136bceea251c40d9579e5", func := "loop.example/g00389/laws.FnExactReadsOf", spec := "fnExactReadsOf", apart := false }
def FnExactReadsOfSaid : Prop := fnExactReadsOfRow.holds Try.pinned (OpenSpec.ofChange fnExactReadsOfSpec)

/-- ITS FALSE NEIGHBOUR: 'it returns false'. Refute it at one input. -/
def fnExactReadsOfWrong : ChangeSpec := { name := "fnExactReadsOf", fn := fun _ => fun
  | [d] => { results := [.lit (.bool false)], args := [d] }
  | _ => none }
def FnExactReadsOfWrongFalsely : Prop := fnExactReadsOfRow.holds Try.pinned (OpenSpec.ofChange fnExactReadsOfWrong)

/-- 'laws.FnExactSetsOf': WHATEVER THE INPUT: true; the input reads as it did. -/
def fnExactSetsOfSpec : ChangeSpec := { name := "fnExactSetsOf", fn := fun _ => fun
  | [d] => { results := [.lit (.bool true)], args := [d] }
  | _ => none }
def fnExactSetsOfRow : OpenClaim := { program := "ytopmacbjbjaekaa", sum := "5a3bf5e70256d7e649bf169aa5a2bc9bed79cc9538f136bceea251c40d9579e5", func := "loop.example/g00389/laws.FnExactSetsOf", spec := "fnExactSetsOf", apart := false }
def FnExactSetsOfSaid : Prop := fnExactSetsOfRow.holds Try.pinned (OpenSpec.ofChange fnExactSetsOfSpec)

/-- ITS FALSE NEIGHBOUR: 'it returns false'. Refute it at one input. -/
def fnExactSetsOfWrong : ChangeSpec := { name := "fnExactSetsOf", fn := fun _ => fun
  | [d] => { results := [.lit (.bool false)], args := [d] }
  | _ => none }
def FnExactSetsOfWrongFalsely : Prop := fnExactSetsOfRow.holds Try.pinned (OpenSpec.ofChange fnExactSetsOfWrong)

/-- 'laws.FnExactNewStore': WHATEVER THE INPUT: true; the input reads as it did. -/
def fnExactNewStoreSpec : ChangeSpec := { name := "fnExactNewStore", fn := fun _ => fun
  | [d] => { results := [.lit (.bool true)], args := [d] }
  | _ => none }
def fnExactNewStoreRow : OpenClaim := { program := "ytopmacbjbjaekaa", sum := "5a3bf5e70256d7e649bf169aa5a2bc9bed79cc9538f136bceea251c40d9579e5", func := "loop.example/g00389/laws.FnExactNewStore", spec := "fnExactNewStore", apart := false }
def FnExactNewStoreSaid : Prop := fnExactNewStoreRow.holds Try.pinned (OpenSpec.ofChange fnExactNewStoreSpec)

/-- ITS FALSE NEIGHBOUR: 'it returns false'. Refute it at one input. -/
def fnExactNewStoreWrong : ChangeSpec := { name := "fnExactNewStore", fn := fun _ => fun
  | [d] => { results := [.lit (.bool false)], args := [d] }
  | _ => none }
def FnExactNewStoreWrongFalsely : Prop := fnExactNewStoreRow.holds Try.pinned (OpenSpec.ofChange fnExactNewStoreWrong)

/-- 'laws.FnConds': WHATEVER THE INPUT: true; the input reads as it did. -/
def fnCondsSpec : ChangeSpec := { name := "fnConds", fn := fun _ => fun
  | [d1, d2] => { results := [.lit (.bool true)], args := [d1, d2] }
  | _ => none }
def fnCondsRow : OpenClaim := { program := "ytopmacbjbjaekaa", sum := "5a3bf5e70256d7e649bf169aa5a2bc9bed79cc9538f136bceea251c40d9579e5", func := "loop.example/g00389/laws.FnConds", spec := "fnConds", unfollowed := true, recurses := true, apart := false }
def FnCondsSaid : Prop := fnCondsRow.holds Try.pinned (OpenSpec.ofChange fnCondsSpec)

/-- ITS FALSE NEIGHBOUR: 'it returns false'. Refute it at one input. -/
def fnCondsWrong : ChangeSpec := { name := "fnConds", fn := fun _ => fun
  | [d1, d2] => { results := [.lit (.bool false)], args := [d1, d2] }
  | _ => none }
def FnCondsWrongFalsely : Prop := fnCondsRow.holds Try.pinned (OpenSpec.ofChange fnCondsWrong)

/- THE SECOND FORM. 'bulk': how many values and letters a reading holds, each counted each time it is reached (what is shared counts as often as it is met; a slice's spare places count too). A statement '..UptoSaid' is the law's where the arguments, and the package variables that the reading takes, are together of bulk at most 1048576: NARROWER than '..Said'. Prove '..Said' where nothing that the law and all that it calls make is longer than what came in: it says more and counts as full. Else prove '..UptoSaid'. A law counts once. -/
mutual
def uptoBulk {H : Type} : DataW H → Nat
  | .lit (.string bytes) => bytes.length + 1
  | .lit _ => 1
  | .nil => 1
  | .ptr d => uptoBulk d + 1
  | .slice elems spare => uptoBulkAll elems + uptoBulkAll spare + 1
  | .agg parts => uptoBulkAll parts + 1
  | .iface _ d => uptoBulk d + 1
  | .map entries => uptoBulkEntries entries + 1
  | .held _ => 1
def uptoBulkAll {H : Type} : List (DataW H) → Nat
  | [] => 0
  | d :: r => uptoBulk d + uptoBulkAll r
def uptoBulkEntries {H : Type} : List (Lit × DataW H) → Nat
  | [] => 0
  | x :: r => uptoBulkEntry x + uptoBulkEntries r
def uptoBulkEntry {H : Type} : Lit × DataW H → Nat
  | (.string bytes, d) => bytes.length + uptoBulk d + 1
  | (_, d) => uptoBulk d + 1
 end
def uptoSmall : (H : Type) → List (DataW H) → Bool := fun _ ds => decide (uptoBulkAll ds ≤ 1048576)
def OpenSpec.upto (s : _root_.Go.ChangeSpec) : _root_.Go.OpenSpec := { _root_.Go.OpenSpec.ofChange s with cond := some uptoSmall }

/-- 'laws.FnExactLazyFlags', WHERE WHAT IT READS IS OF BULK AT MOST 1048576: true; the input reads as it did. -/
def fnExactLazyFlagsUptoRow : OpenClaim := { program := "ytopmacbjbjaekaa", sum := "5a3bf5e70256d7e649bf169aa5a2bc9bed79cc9538f136bceea251c40d9579e5", func := "loop.example/g00389/laws.FnExactLazyFlags", spec := "fnExactLazyFlags", unfollowed := true, recurses := true, apart := false, narrowed := true }
def FnExactLazyFlagsUptoSaid : Prop := fnExactLazyFlagsUptoRow.holds Try.pinned (OpenSpec.upto fnExactLazyFlagsSpec)

/-- 'laws.FnExactEagerFlags', WHERE WHAT IT READS IS OF BULK AT MOST 1048576: true; the input reads as it did. -/
def fnExactEagerFlagsUptoRow : OpenClaim := { program := "ytopmacbjbjaekaa", sum := "5a3bf5e70256d7e649bf169aa5a2bc9bed79cc9538f136bceea251c40d9579e5", func := "loop.example/g00389/laws.FnExactEagerFlags", spec := "fnExactEagerFlags", unfollowed := true, recurses := true, apart := false, narrowed := true }
def FnExactEagerFlagsUptoSaid : Prop := fnExactEagerFlagsUptoRow.holds Try.pinned (OpenSpec.upto fnExactEagerFlagsSpec)

/-- 'laws.FnExactFlagsOf', WHERE WHAT IT READS IS OF BULK AT MOST 1048576: true; the input reads as it did. -/
def fnExactFlagsOfUptoRow : OpenClaim := { program := "ytopmacbjbjaekaa", sum := "5a3bf5e70256d7e649bf169aa5a2bc9bed79cc9538f136bceea251c40d9579e5", func := "loop.example/g00389/laws.FnExactFlagsOf", spec := "fnExactFlagsOf", apart := false, narrowed := true }
def FnExactFlagsOfUptoSaid : Prop := fnExactFlagsOfUptoRow.holds Try.pinned (OpenSpec.upto fnExactFlagsOfSpec)

/-- 'laws.FnExactCarryOf', WHERE WHAT IT READS IS OF BULK AT MOST 1048576: true; the input reads as it did. -/
def fnExactCarryOfUptoRow : OpenClaim := { program := "ytopmacbjbjaekaa", sum := "5a3bf5e70256d7e649bf169aa5a2bc9bed79cc9538f136bceea251c40d9579e5", func := "loop.example/g00389/laws.FnExactCarryOf", spec := "fnExactCarryOf", apart := false, narrowed := true }
def FnExactCarryOfUptoSaid : Prop := fnExactCarryOfUptoRow.holds Try.pinned (OpenSpec.upto fnExactCarryOfSpec)

/-- 'laws.FnExactCondOf', WHERE WHAT IT READS IS OF BULK AT MOST 1048576: true; the input reads as it did. -/
def fnExactCondOfUptoRow : OpenClaim := { program := "ytopmacbjbjaekaa", sum := "5a3bf5e70256d7e649bf169aa5a2bc9bed79cc9538f136bceea251c40d9579e5", func := "loop.example/g00389/laws.FnExactCondOf", spec := "fnExactCondOf", unfollowed := true, recurses := true, apart := false, narrowed := true }
def FnExactCondOfUptoSaid : Prop := fnExactCondOfUptoRow.holds Try.pinned (OpenSpec.upto fnExactCondOfSpec)

/-- 'laws.FnExactMayWrite', WHERE WHAT IT READS IS OF BULK AT MOST 1048576: true; the input reads as it did. -/
def fnExactMayWriteUptoRow : OpenClaim := { program := "ytopmacbjbjaekaa", sum := "5a3bf5e70256d7e649bf169aa5a2bc9bed79cc9538f136bceea251c40d9579e5", func := "loop.example/g00389/laws.FnExactMayWrite", spec := "fnExactMayWrite", apart := false, narrowed := true }
def FnExactMayWriteUptoSaid : Prop := fnExactMayWriteUptoRow.holds Try.pinned (OpenSpec.upto fnExactMayWriteSpec)

/-- 'laws.FnExactIsStraight', WHERE WHAT IT READS IS OF BULK AT MOST 1048576: true; the input reads as it did. -/
def fnExactIsStraightUptoRow : OpenClaim := { program := "ytopmacbjbjaekaa", sum := "5a3bf5e70256d7e649bf169aa5a2bc9bed79cc9538f136bceea251c40d9579e5", func := "loop.example/g00389/laws.FnExactIsStraight", spec := "fnExactIsStraight", apart := false, narrowed := true }
def FnExactIsStraightUptoSaid : Prop := fnExactIsStraightUptoRow.holds Try.pinned (OpenSpec.upto fnExactIsStraightSpec)

/-- 'laws.FnExactMayFault', WHERE WHAT IT READS IS OF BULK AT MOST 1048576: true; the input reads as it did. -/
def fnExactMayFaultUptoRow : OpenClaim := { program := "ytopmacbjbjaekaa", sum := "5a3bf5e70256d7e649bf169aa5a2bc9bed79cc9538f136bceea251c40d9579e5", func := "loop.example/g00389/laws.FnExactMayFault", spec := "fnExactMayFault", apart := false, narrowed := true }
def FnExactMayFaultUptoSaid : Prop := fnExactMayFaultUptoRow.holds Try.pinned (OpenSpec.upto fnExactMayFaultSpec)

/-- 'laws.FnExactReadsOf', WHERE WHAT IT READS IS OF BULK AT MOST 1048576: true; the input reads as it did. -/
def fnExactReadsOfUptoRow : OpenClaim := { program := "ytopmacbjbjaekaa", sum := "5a3bf5e70256d7e649bf169aa5a2bc9bed79cc9538f136bceea251c40d9579e5", func := "loop.example/g00389/laws.FnExactReadsOf", spec := "fnExactReadsOf", apart := false, narrowed := true }
def FnExactReadsOfUptoSaid : Prop := fnExactReadsOfUptoRow.holds Try.pinned (OpenSpec.upto fnExactReadsOfSpec)

/-- 'laws.FnExactSetsOf', WHERE WHAT IT READS IS OF BULK AT MOST 1048576: true; the input reads as it did. -/
def fnExactSetsOfUptoRow : OpenClaim := { program := "ytopmacbjbjaekaa", sum := "5a3bf5e70256d7e649bf169aa5a2bc9bed79cc9538f136bceea251c40d9579e5", func := "loop.example/g00389/laws.FnExactSetsOf", spec := "fnExactSetsOf", apart := false, narrowed := true }
def FnExactSetsOfUptoSaid : Prop := fnExactSetsOfUptoRow.holds Try.pinned (OpenSpec.upto fnExactSetsOfSpec)

/-- 'laws.FnExactNewStore', WHERE WHAT IT READS IS OF BULK AT MOST 1048576: true; the input reads as it did. -/
def fnExactNewStoreUptoRow : OpenClaim := { program := "ytopmacbjbjaekaa", sum := "5a3bf5e70256d7e649bf169aa5a2bc9bed79cc9538f136bceea251c40d9579e5", func := "loop.example/g00389/laws.FnExactNewStore", spec := "fnExactNewStore", apart := false, narrowed := true }
def FnExactNewStoreUptoSaid : Prop := fnExactNewStoreUptoRow.holds Try.pinned (OpenSpec.upto fnExactNewStoreSpec)

/-- 'laws.FnConds', WHERE WHAT IT READS IS OF BULK AT MOST 1048576: true; the input reads as it did. -/
def fnCondsUptoRow : OpenClaim := { program := "ytopmacbjbjaekaa", sum := "5a3bf5e70256d7e649bf169aa5a2bc9bed79cc9538f136bceea251c40d9579e5", func := "loop.example/g00389/laws.FnConds", spec := "fnConds", unfollowed := true, recurses := true, apart := false, narrowed := true }
def FnCondsUptoSaid : Prop := fnCondsUptoRow.holds Try.pinned (OpenSpec.upto fnCondsSpec)

end Rows
end Go.Proofs.Ytopmacbjbjaekaa
