/-
  No cell of these rows narrows 'for every input' (looked for: loops, veiled, ifaces, maps, wideKeys, modest, calm, conditions, laid).
  DERIVED. THE GIVEN ROWS OF THIS SEAT. 6 by the template 'for every input the law returns true; each argument reads behind the call as it read before'; 0 by the template 'total and deterministic' (their statements: YtodmelfgkhebjaaTotals.lean).
  GIVEN WITH THE SEED: the statements are not yours to turn. If you find one false, say at which input.
  Laid BY PROGRAM, IN A SANDBOX (cutbox-rows.mjs): the forced cells as the released guide's own fill.sh prints them over the translation 4b0690b04e552dd0… (all of the seat's roots in one cut). By AI agents, Wed Nov 11 2026. No macro, syntax, notation, axiom, sorry.
-/
import Derived.Test.YtodmelfgkhebjaaChecked
import GoSem.Claim
import GoSem.ClaimJoined
import GoSem.ClaimMapViews
import Derived.JoinedTies
import Derived.KernelRfl
namespace Go.Proofs.Ytodmelfgkhebjaa
/- THE CELL 'sum', in the pinned program and in every row, IS THE sha256 OF THE DUMP (.gsa) THAT YtodmelfgkhebjaaProg.lean LOADS. Nothing in Lean hashes anything: it is a label: what it is worth is what the hold of that sum in a sandbox is worth. -/
noncomputable def Try.pinned : Pinned := { name := "ytodmelfgkhebjaa", sum := "4b0690b04e552dd0f65264aff2edc169cd199a658ccc951178988153296e5b3c", checked := Try.checked }
namespace Rows
def none {H : Type} : Left H := { results := [], args := [] }

/-- 'laws.FnExactNewCpu': WHATEVER THE INPUT: true; the input reads as it did. -/
def fnExactNewCpuSpec : ChangeSpec := { name := "fnExactNewCpu", fn := fun _ => fun
  | [d1, d2] => { results := [.lit (.bool true)], args := [d1, d2] }
  | _ => none }
def fnExactNewCpuRow : OpenClaim := { program := "ytodmelfgkhebjaa", sum := "4b0690b04e552dd0f65264aff2edc169cd199a658ccc951178988153296e5b3c", func := "loop.example/g00389/laws.FnExactNewCpu", spec := "fnExactNewCpu", unfollowed := true, recurses := true, apart := false }
def FnExactNewCpuSaid : Prop := fnExactNewCpuRow.holds Try.pinned (OpenSpec.ofChange fnExactNewCpuSpec)

/-- ITS FALSE NEIGHBOUR: 'it returns false'. Refute it at one input. -/
def fnExactNewCpuWrong : ChangeSpec := { name := "fnExactNewCpu", fn := fun _ => fun
  | [d1, d2] => { results := [.lit (.bool false)], args := [d1, d2] }
  | _ => none }
def FnExactNewCpuWrongFalsely : Prop := fnExactNewCpuRow.holds Try.pinned (OpenSpec.ofChange fnExactNewCpuWrong)

/-- 'laws.FnExactFrameOf': WHATEVER THE INPUT: true; the input reads as it did. -/
def fnExactFrameOfSpec : ChangeSpec := { name := "fnExactFrameOf", fn := fun _ => fun
  | [d1, d2] => { results := [.lit (.bool true)], args := [d1, d2] }
  | _ => none }
def fnExactFrameOfRow : OpenClaim := { program := "ytodmelfgkhebjaa", sum := "4b0690b04e552dd0f65264aff2edc169cd199a658ccc951178988153296e5b3c", func := "loop.example/g00389/laws.FnExactFrameOf", spec := "fnExactFrameOf", unfollowed := true, recurses := true, apart := false }
def FnExactFrameOfSaid : Prop := fnExactFrameOfRow.holds Try.pinned (OpenSpec.ofChange fnExactFrameOfSpec)

/-- ITS FALSE NEIGHBOUR: 'it returns false'. Refute it at one input. -/
def fnExactFrameOfWrong : ChangeSpec := { name := "fnExactFrameOf", fn := fun _ => fun
  | [d1, d2] => { results := [.lit (.bool false)], args := [d1, d2] }
  | _ => none }
def FnExactFrameOfWrongFalsely : Prop := fnExactFrameOfRow.holds Try.pinned (OpenSpec.ofChange fnExactFrameOfWrong)

/-- 'laws.FnExactTouch': WHATEVER THE INPUT: true; the input reads as it did. -/
def fnExactTouchSpec : ChangeSpec := { name := "fnExactTouch", fn := fun _ => fun
  | [d1, d2, d3, d4, d5] => { results := [.lit (.bool true)], args := [d1, d2, d3, d4, d5] }
  | _ => none }
def fnExactTouchRow : OpenClaim := { program := "ytodmelfgkhebjaa", sum := "4b0690b04e552dd0f65264aff2edc169cd199a658ccc951178988153296e5b3c", func := "loop.example/g00389/laws.FnExactTouch", spec := "fnExactTouch", unfollowed := true, recurses := true, apart := false }
def FnExactTouchSaid : Prop := fnExactTouchRow.holds Try.pinned (OpenSpec.ofChange fnExactTouchSpec)

/-- ITS FALSE NEIGHBOUR: 'it returns false'. Refute it at one input. -/
def fnExactTouchWrong : ChangeSpec := { name := "fnExactTouch", fn := fun _ => fun
  | [d1, d2, d3, d4, d5] => { results := [.lit (.bool false)], args := [d1, d2, d3, d4, d5] }
  | _ => none }
def FnExactTouchWrongFalsely : Prop := fnExactTouchRow.holds Try.pinned (OpenSpec.ofChange fnExactTouchWrong)

/-- 'laws.FnExactPushWord': WHATEVER THE INPUT: true; the input reads as it did. -/
def fnExactPushWordSpec : ChangeSpec := { name := "fnExactPushWord", fn := fun _ => fun
  | [d1, d2] => { results := [.lit (.bool true)], args := [d1, d2] }
  | _ => none }
def fnExactPushWordRow : OpenClaim := { program := "ytodmelfgkhebjaa", sum := "4b0690b04e552dd0f65264aff2edc169cd199a658ccc951178988153296e5b3c", func := "loop.example/g00389/laws.FnExactPushWord", spec := "fnExactPushWord", unfollowed := true, recurses := true, apart := false }
def FnExactPushWordSaid : Prop := fnExactPushWordRow.holds Try.pinned (OpenSpec.ofChange fnExactPushWordSpec)

/-- ITS FALSE NEIGHBOUR: 'it returns false'. Refute it at one input. -/
def fnExactPushWordWrong : ChangeSpec := { name := "fnExactPushWord", fn := fun _ => fun
  | [d1, d2] => { results := [.lit (.bool false)], args := [d1, d2] }
  | _ => none }
def FnExactPushWordWrongFalsely : Prop := fnExactPushWordRow.holds Try.pinned (OpenSpec.ofChange fnExactPushWordWrong)

/-- 'laws.FnExactPopWord': WHATEVER THE INPUT: true; the input reads as it did. -/
def fnExactPopWordSpec : ChangeSpec := { name := "fnExactPopWord", fn := fun _ => fun
  | [d] => { results := [.lit (.bool true)], args := [d] }
  | _ => none }
def fnExactPopWordRow : OpenClaim := { program := "ytodmelfgkhebjaa", sum := "4b0690b04e552dd0f65264aff2edc169cd199a658ccc951178988153296e5b3c", func := "loop.example/g00389/laws.FnExactPopWord", spec := "fnExactPopWord", unfollowed := true, recurses := true, apart := false }
def FnExactPopWordSaid : Prop := fnExactPopWordRow.holds Try.pinned (OpenSpec.ofChange fnExactPopWordSpec)

/-- ITS FALSE NEIGHBOUR: 'it returns false'. Refute it at one input. -/
def fnExactPopWordWrong : ChangeSpec := { name := "fnExactPopWord", fn := fun _ => fun
  | [d] => { results := [.lit (.bool false)], args := [d] }
  | _ => none }
def FnExactPopWordWrongFalsely : Prop := fnExactPopWordRow.holds Try.pinned (OpenSpec.ofChange fnExactPopWordWrong)

/-- 'laws.FnExactEnterFault': WHATEVER THE INPUT: true; the input reads as it did. -/
def fnExactEnterFaultSpec : ChangeSpec := { name := "fnExactEnterFault", fn := fun _ => fun
  | [d1, d2] => { results := [.lit (.bool true)], args := [d1, d2] }
  | _ => none }
def fnExactEnterFaultRow : OpenClaim := { program := "ytodmelfgkhebjaa", sum := "4b0690b04e552dd0f65264aff2edc169cd199a658ccc951178988153296e5b3c", func := "loop.example/g00389/laws.FnExactEnterFault", spec := "fnExactEnterFault", unfollowed := true, recurses := true, apart := false }
def FnExactEnterFaultSaid : Prop := fnExactEnterFaultRow.holds Try.pinned (OpenSpec.ofChange fnExactEnterFaultSpec)

/-- ITS FALSE NEIGHBOUR: 'it returns false'. Refute it at one input. -/
def fnExactEnterFaultWrong : ChangeSpec := { name := "fnExactEnterFault", fn := fun _ => fun
  | [d1, d2] => { results := [.lit (.bool false)], args := [d1, d2] }
  | _ => none }
def FnExactEnterFaultWrongFalsely : Prop := fnExactEnterFaultRow.holds Try.pinned (OpenSpec.ofChange fnExactEnterFaultWrong)

/- THE SECOND FORM. 'bulk': how many values and letters a reading holds, each counted each time it is reached (what is shared counts as often as it is met; a slice's spare places count too). A statement '..UptoSaid' is the law's where the arguments, and the package variables that the reading takes, are together of bulk at most 1048576: NARROWER than '..Said'. Prove '..Said' where nothing that the law and all that it calls make is longer than what came in: it says more and counts as full. Else prove '..UptoSaid'. A law counts once. -/
mutual
def uptoBulk {H : Type} : DataW H → Nat
  | .lit (.string bytes) => bytes.length + 1
  | .lit _ => 1
  | .nil => 1
  | .ptr d => uptoBulk d + 1
  | .slice elems spare => uptoBulkAll elems + uptoBulkAll spare + 1
  | .agg parts => uptoBulkAll parts + 1
  | .iface _ d => uptoBulk d + 1
  | .map entries => uptoBulkEntries entries + 1
  | .held _ => 1
def uptoBulkAll {H : Type} : List (DataW H) → Nat
  | [] => 0
  | d :: r => uptoBulk d + uptoBulkAll r
def uptoBulkEntries {H : Type} : List (Lit × DataW H) → Nat
  | [] => 0
  | x :: r => uptoBulkEntry x + uptoBulkEntries r
def uptoBulkEntry {H : Type} : Lit × DataW H → Nat
  | (.string bytes, d) => bytes.length + uptoBulk d + 1
  | (_, d) => uptoBulk d + 1
 end
def uptoSmall : (H : Type) → List (DataW H) → Bool := fun _ ds => decide (uptoBulkAll ds ≤ 1048576)
def OpenSpec.upto (s : _root_.Go.ChangeSpec) : _root_.Go.OpenSpec := { _root_.Go.OpenSpec.ofChange s with cond := some uptoSmall }

/-- 'laws.FnExactNewCpu', WHERE WHAT IT READS IS OF BULK AT MOST 1048576: true; the input reads as it did. -/
def fnExactNewCpuUptoRow : OpenClaim := { program := "ytodmelfgkhebjaa", sum := "4b0690b04e552dd0f65264aff2edc169cd199a658ccc951178988153296e5b3c", func := "loop.example/g00389/laws.FnExactNewCpu", spec := "fnExactNewCpu", unfollowed := true, recurses := true, apart := false, narrowed := true }
def FnExactNewCpuUptoSaid : Prop := fnExactNewCpuUptoRow.holds Try.pinned (OpenSpec.upto fnExactNewCpuSpec)

/-- 'laws.FnExactFrameOf', WHERE WHAT IT READS IS OF BULK AT MOST 1048576: true; the input reads as it did. -/
def fnExactFrameOfUptoRow : OpenClaim := { program := "ytodmelfgkhebjaa", sum := "4b0690b04e552dd0f65264aff2edc169cd199a658ccc951178988153296e5b3c", func := "loop.example/g00389/laws.FnExactFrameOf", spec := "fnExactFrameOf", unfollowed := true, recurses := true, apart := false, narrowed := true }
def FnExactFrameOfUptoSaid : Prop := fnExactFrameOfUptoRow.holds Try.pinned (OpenSpec.upto fnExactFrameOfSpec)

/-- 'laws.FnExactTouch', WHERE WHAT IT READS IS OF BULK AT MOST 1048576: true; the input reads as it did. -/
def fnExactTouchUptoRow : OpenClaim := { program := "ytodmelfgkhebjaa", sum := "4b0690b04e552dd0f65264aff2edc169cd199a658ccc951178988153296e5b3c", func := "loop.example/g00389/laws.FnExactTouch", spec := "fnExactTouch", unfollowed := true, recurses := true, apart := false, narrowed := true }
def FnExactTouchUptoSaid : Prop := fnExactTouchUptoRow.holds Try.pinned (OpenSpec.upto fnExactTouchSpec)

/-- 'laws.FnExactPushWord', WHERE WHAT IT READS IS OF BULK AT MOST 1048576: true; the input reads as it did. -/
def fnExactPushWordUptoRow : OpenClaim := { program := "ytodmelfgkhebjaa", sum := "4b0690b04e552dd0f65264aff2edc169cd199a658ccc951178988153296e5b3c", func := "loop.example/g00389/laws.FnExactPushWord", spec := "fnExactPushWord", unfollowed := true, recurses := true, apart := false, narrowed := true }
def FnExactPushWordUptoSaid : Prop := fnExactPushWordUptoRow.holds Try.pinned (OpenSpec.upto fnExactPushWordSpec)

/-- 'laws.FnExactPopWord', WHERE WHAT IT READS IS OF BULK AT MOST 1048576: true; the input reads as it did. -/
def fnExactPopWordUptoRow : OpenClaim := { program := "ytodmelfgkhebjaa", sum := "4b0690b04e552dd0f65264aff2edc169cd199a658ccc951178988153296e5b3c", func := "loop.example/g00389/laws.FnExactPopWord", spec := "fnExactPopWord", unfollowed := true, recurses := true, apart := false, narrowed := true }
def FnExactPopWordUptoSaid : Prop := fnExactPopWordUptoRow.holds Try.pinned (OpenSpec.upto fnExactPopWordSpec)

/-- 'laws.FnExactEnterFault', WHERE WHAT IT READS IS OF BULK AT MOST 1048576: true; the input reads as it did. -/
def fnExactEnterFaultUptoRow : OpenClaim := { program := "ytodmelfgkhebjaa", sum := "4b0690b04e552dd0f65264aff2edc169cd199a658ccc951178988153296e5b3c", func := "loop.example/g00389/laws.FnExactEnterFault", spec := "fnExactEnterFault", unfollowed := true, recurses := true, apart := false, narrowed := true }
def FnExactEnterFaultUptoSaid : Prop := fnExactEnterFaultUptoRow.holds Try.pinned (OpenSpec.upto fnExactEnterFaultSpec)

end Rows
end Go.Proofs.Ytodmelfgkhebjaa
