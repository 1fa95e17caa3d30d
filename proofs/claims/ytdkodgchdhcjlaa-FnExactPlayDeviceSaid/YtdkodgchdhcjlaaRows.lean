/-
  No cell of these rows narrows 'for every input' (looked for: loops, veiled, ifaces, maps, wideKeys, modest, calm, conditions, laid).
  DERIVED. THE GIVEN ROWS OF THIS SEAT. 5 by the template 'for every input the law returns true; each argument reads behind the call as it read before'; 0 by the template 'total and deterministic' (their statements: YtdkodgchdhcjlaaTotals.lean).
  GIVEN WITH THE SEED: the statements are not yours to turn. If you find one false, say at which input.
  Laid BY PROGRAM, IN A SANDBOX (cutbox-rows.mjs): the forced cells as the released guide's own fill.sh prints them over the translation 831d913fbd3a62a3… (all of the seat's roots in one cut). By AI agents, Wed Nov 11 2026. No macro, syntax, notation, axiom, sorry.
-/
import Derived.Test.YtdkodgchdhcjlaaChecked
import GoSem.Claim
import GoSem.ClaimJoined
import GoSem.ClaimMapViews
import Derived.JoinedTies
import Derived.KernelRfl
namespace Go.Proofs.Ytdkodgchdhcjlaa
/- THE CELL 'sum', in the pinned program and in every row, IS THE sha256 OF THE DUMP (.gsa) THAT YtdkodgchdhcjlaaProg.lean LOADS. Nothing in Lean hashes anything: it is a label: what it is worth is what the hold of that sum in a sandbox is worth. -/
noncomputable def Try.pinned : Pinned := { name := "ytdkodgchdhcjlaa", sum := "831d913fbd3a62a348e8da673b1fcc168be1853cbfa87cfae22a65fc16f34aa3", checked := Try.checked }
namespace Rows
def none {H : Type} : Left H := { results := [], args := [] }

/-- 'laws.FnExactPortWrite': WHATEVER THE INPUT: true; the input reads as it did. -/
def fnExactPortWriteSpec : ChangeSpec := { name := "fnExactPortWrite", fn := fun _ => fun
  | [d1, d2, d3] => { results := [.lit (.bool true)], args := [d1, d2, d3] }
  | _ => none }
def fnExactPortWriteRow : OpenClaim := { program := "ytdkodgchdhcjlaa", sum := "831d913fbd3a62a348e8da673b1fcc168be1853cbfa87cfae22a65fc16f34aa3", func := "loop.example/g00389/laws.FnExactPortWrite", spec := "fnExactPortWrite", unfollowed := true, recurses := true, apart := false }
def FnExactPortWriteSaid : Prop := fnExactPortWriteRow.holds Try.pinned (OpenSpec.ofChange fnExactPortWriteSpec)

/-- ITS FALSE NEIGHBOUR: 'it returns false'. Refute it at one input. -/
def fnExactPortWriteWrong : ChangeSpec := { name := "fnExactPortWrite", fn := fun _ => fun
  | [d1, d2, d3] => { results := [.lit (.bool false)], args := [d1, d2, d3] }
  | _ => none }
def FnExactPortWriteWrongFalsely : Prop := fnExactPortWriteRow.holds Try.pinned (OpenSpec.ofChange fnExactPortWriteWrong)

/-- 'laws.FnExactPortRead': WHATEVER THE INPUT: true; the input reads as it did. -/
def fnExactPortReadSpec : ChangeSpec := { name := "fnExactPortRead", fn := fun _ => fun
  | [d1, d2] => { results := [.lit (.bool true)], args := [d1, d2] }
  | _ => none }
def fnExactPortReadRow : OpenClaim := { program := "ytdkodgchdhcjlaa", sum := "831d913fbd3a62a348e8da673b1fcc168be1853cbfa87cfae22a65fc16f34aa3", func := "loop.example/g00389/laws.FnExactPortRead", spec := "fnExactPortRead", unfollowed := true, recurses := true, apart := false }
def FnExactPortReadSaid : Prop := fnExactPortReadRow.holds Try.pinned (OpenSpec.ofChange fnExactPortReadSpec)

/-- ITS FALSE NEIGHBOUR: 'it returns false'. Refute it at one input. -/
def fnExactPortReadWrong : ChangeSpec := { name := "fnExactPortRead", fn := fun _ => fun
  | [d1, d2] => { results := [.lit (.bool false)], args := [d1, d2] }
  | _ => none }
def FnExactPortReadWrongFalsely : Prop := fnExactPortReadRow.holds Try.pinned (OpenSpec.ofChange fnExactPortReadWrong)

/-- 'laws.FnExactStepDevice': WHATEVER THE INPUT: true; the input reads as it did. -/
def fnExactStepDeviceSpec : ChangeSpec := { name := "fnExactStepDevice", fn := fun _ => fun
  | [d1, d2] => { results := [.lit (.bool true)], args := [d1, d2] }
  | _ => none }
def fnExactStepDeviceRow : OpenClaim := { program := "ytdkodgchdhcjlaa", sum := "831d913fbd3a62a348e8da673b1fcc168be1853cbfa87cfae22a65fc16f34aa3", func := "loop.example/g00389/laws.FnExactStepDevice", spec := "fnExactStepDevice", unfollowed := true, recurses := true, apart := false }
def FnExactStepDeviceSaid : Prop := fnExactStepDeviceRow.holds Try.pinned (OpenSpec.ofChange fnExactStepDeviceSpec)

/-- ITS FALSE NEIGHBOUR: 'it returns false'. Refute it at one input. -/
def fnExactStepDeviceWrong : ChangeSpec := { name := "fnExactStepDevice", fn := fun _ => fun
  | [d1, d2] => { results := [.lit (.bool false)], args := [d1, d2] }
  | _ => none }
def FnExactStepDeviceWrongFalsely : Prop := fnExactStepDeviceRow.holds Try.pinned (OpenSpec.ofChange fnExactStepDeviceWrong)

/-- 'laws.FnExactPlayDevice': WHATEVER THE INPUT: true; the input reads as it did. -/
def fnExactPlayDeviceSpec : ChangeSpec := { name := "fnExactPlayDevice", fn := fun _ => fun
  | [d] => { results := [.lit (.bool true)], args := [d] }
  | _ => none }
def fnExactPlayDeviceRow : OpenClaim := { program := "ytdkodgchdhcjlaa", sum := "831d913fbd3a62a348e8da673b1fcc168be1853cbfa87cfae22a65fc16f34aa3", func := "loop.example/g00389/laws.FnExactPlayDevice", spec := "fnExactPlayDevice", unfollowed := true, recurses := true, apart := false }
def FnExactPlayDeviceSaid : Prop := fnExactPlayDeviceRow.holds Try.pinned (OpenSpec.ofChange fnExactPlayDeviceSpec)

/-- ITS FALSE NEIGHBOUR: 'it returns false'. Refute it at one input. -/
def fnExactPlayDeviceWrong : ChangeSpec := { name := "fnExactPlayDevice", fn := fun _ => fun
  | [d] => { results := [.lit (.bool false)], args := [d] }
  | _ => none }
def FnExactPlayDeviceWrongFalsely : Prop := fnExactPlayDeviceRow.holds Try.pinned (OpenSpec.ofChange fnExactPlayDeviceWrong)

/-- 'laws.FnConds': WHATEVER THE INPUT: true; the input reads as it did. -/
def fnCondsSpec : ChangeSpec := { name := "fnConds", fn := fun _ => fun
  | [d1, d2] => { results := [.lit (.bool true)], args := [d1, d2] }
  | _ => none }
def fnCondsRow : OpenClaim := { program := "ytdkodgchdhcjlaa", sum := "831d913fbd3a62a348e8da673b1fcc168be1853cbfa87cfae22a65fc16f34aa3", func := "loop.example/g00389/laws.FnConds", spec := "fnConds", unfollowed := true, recurses := true, apart := false }
def FnCondsSaid : Prop := fnCondsRow.holds Try.pinned (OpenSpec.ofChange fnCondsSpec)

/-- ITS FALSE NEIGHBOUR: 'it returns false'. Refute it at one input. -/
def fnCondsWrong : ChangeSpec := { name := "fnConds", fn := fun _ => fun
  | [d1, d2] => { results := [.lit (.bool false)], args := [d1, d2] }
  | _ => none }
def FnCondsWrongFalsely : Prop := fnCondsRow.holds Try.pinned (OpenSpec.ofChange fnCondsWrong)

/- THE SECOND FORM. 'bulk': how many values and letters a reading holds, each counted each time it is reached (what is shared counts as often as it is met; a slice's spare places count too). A statement '..UptoSaid' is the law's where the arguments, and the package variables that the reading takes, are together of bulk at most 1048576: NARROWER than '..Said'. Prove '..Said' where nothing that the law and all that it calls make is longer than what came in: it says more and counts as full. Else prove '..UptoSaid'. A law counts once. -/
mutual
def uptoBulk {H : Type} : DataW H → Nat
  | .lit (.string bytes) => bytes.length + 1
  | .lit _ => 1
  | .nil => 1
  | .ptr d => uptoBulk d + 1
  | .slice elems spare => uptoBulkAll elems + uptoBulkAll spare + 1
  | .agg parts => uptoBulkAll parts + 1
  | .iface _ d => uptoBulk d + 1
  | .map entries => uptoBulkEntries entries + 1
  | .held _ => 1
def uptoBulkAll {H : Type} : List (DataW H) → Nat
  | [] => 0
  | d :: r => uptoBulk d + uptoBulkAll r
def uptoBulkEntries {H : Type} : List (Lit × DataW H) → Nat
  | [] => 0
  | x :: r => uptoBulkEntry x + uptoBulkEntries r
def uptoBulkEntry {H : Type} : Lit × DataW H → Nat
  | (.string bytes, d) => bytes.length + uptoBulk d + 1
  | (_, d) => uptoBulk d + 1
 end
def uptoSmall : (H : Type) → List (DataW H) → Bool := fun _ ds => decide (uptoBulkAll ds ≤ 1048576)
def OpenSpec.upto (s : _root_.Go.ChangeSpec) : _root_.Go.OpenSpec := { _root_.Go.OpenSpec.ofChange s with cond := some uptoSmall }

/-- 'laws.FnExactPortWrite', WHERE WHAT IT READS IS OF BULK AT MOST 1048576: true; the input reads as it did. -/
def fnExactPortWriteUptoRow : OpenClaim := { program := "ytdkodgchdhcjlaa", sum := "831d913fbd3a62a348e8da673b1fcc168be1853cbfa87cfae22a65fc16f34aa3", func := "loop.example/g00389/laws.FnExactPortWrite", spec := "fnExactPortWrite", unfollowed := true, recurses := true, apart := false, narrowed := true }
def FnExactPortWriteUptoSaid : Prop := fnExactPortWriteUptoRow.holds Try.pinned (OpenSpec.upto fnExactPortWriteSpec)

/-- 'laws.FnExactPortRead', WHERE WHAT IT READS IS OF BULK AT MOST 1048576: true; the input reads as it did. -/
def fnExactPortReadUptoRow : OpenClaim := { program := "ytdkodgchdhcjlaa", sum := "831d913fbd3a62a348e8da673b1fcc168be1853cbfa87cfae22a65fc16f34aa3", func := "loop.example/g00389/laws.FnExactPortRead", spec := "fnExactPortRead", unfollowed := true, recurses := true, apart := false, narrowed := true }
def FnExactPortReadUptoSaid : Prop := fnExactPortReadUptoRow.holds Try.pinned (OpenSpec.upto fnExactPortReadSpec)

/-- 'laws.FnExactStepDevice', WHERE WHAT IT READS IS OF BULK AT MOST 1048576: true; the input reads as it did. -/
def fnExactStepDeviceUptoRow : OpenClaim := { program := "ytdkodgchdhcjlaa", sum := "831d913fbd3a62a348e8da673b1fcc168be1853cbfa87cfae22a65fc16f34aa3", func := "loop.example/g00389/laws.FnExactStepDevice", spec := "fnExactStepDevice", unfollowed := true, recurses := true, apart := false, narrowed := true }
def FnExactStepDeviceUptoSaid : Prop := fnExactStepDeviceUptoRow.holds Try.pinned (OpenSpec.upto fnExactStepDeviceSpec)

/-- 'laws.FnExactPlayDevice', WHERE WHAT IT READS IS OF BULK AT MOST 1048576: true; the input reads as it did. -/
def fnExactPlayDeviceUptoRow : OpenClaim := { program := "ytdkodgchdhcjlaa", sum := "831d913fbd3a62a348e8da673b1fcc168be1853cbfa87cfae22a65fc16f34aa3", func := "loop.example/g00389/laws.FnExactPlayDevice", spec := "fnExactPlayDevice", unfollowed := true, recurses := true, apart := false, narrowed := true }
def FnExactPlayDeviceUptoSaid : Prop := fnExactPlayDeviceUptoRow.holds Try.pinned (OpenSpec.upto fnExactPlayDeviceSpec)

/-- 'laws.FnConds', WHERE WHAT IT READS IS OF BULK AT MOST 1048576: true; the input reads as it did. -/
def fnCondsUptoRow : OpenClaim := { program := "ytdkodgchdhcjlaa", sum := "831d913fbd3a62a348e8da673b1fcc168be1853cbfa87cfae22a65fc16f34aa3", func := "loop.example/g00389/laws.FnConds", spec := "fnConds", unfollowed := true, recurses := true, apart := false, narrowed := true }
def FnCondsUptoSaid : Prop := fnCondsUptoRow.holds Try.pinned (OpenSpec.upto fnCondsSpec)

end Rows
end Go.Proofs.Ytdkodgchdhcjlaa
