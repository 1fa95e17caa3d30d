/-
  No cell of these rows narrows 'for every input' (looked for: loops, veiled, ifaces, maps, wideKeys, modest, calm, conditions, laid).
  DERIVED. THE GIVEN ROWS OF THIS SEAT. 4 by the template 'for every input the law returns true; each argument reads behind the call as it read before'; 0 by the template 'total and deterministic' (their statements: YthlhapafipikmaaTotals.lean).
  GIVEN WITH THE SEED: the statements are not yours to turn. If you find one false, say at which input.
  Laid BY PROGRAM, IN A SANDBOX (cutbox-rows.mjs): the forced cells as the released guide's own fill.sh prints them over the translation a1dfe1460b95cf7d… (all of the seat's roots in one cut). By AI agents, Wed Nov 11 2026. No macro, syntax, notation, axiom, sorry.
-/
import Derived.Test.YthlhapafipikmaaChecked
import GoSem.Claim
import GoSem.ClaimJoined
import GoSem.ClaimMapViews
import Derived.JoinedTies
import Derived.KernelRfl
namespace Go.Proofs.Ythlhapafipikmaa
/- THE CELL 'sum', in the pinned program and in every row, IS THE sha256 OF THE DUMP (.gsa) THAT YthlhapafipikmaaProg.lean LOADS. Nothing in Lean hashes anything: it is a label: what it is worth is what the hold of that sum in a sandbox is worth. -/
noncomputable def Try.pinned : Pinned := { name := "ythlhapafipikmaa", sum := "a1dfe1460b95cf7d69871a784293551c2a572b65ed5b211190b805a1dbefd76a", checked := Try.checked }
namespace Rows
def none {H : Type} : Left H := { results := [], args := [] }

/-- 'laws.FnExactPopWord': WHATEVER THE INPUT: true; the input reads as it did. -/
def fnExactPopWordSpec : ChangeSpec := { name := "fnExactPopWord", fn := fun _ => fun
  | [d] => { results := [.lit (.bool true)], args := [d] }
  | _ => none }
def fnExactPopWordRow : OpenClaim := { program := "ythlhapafipikmaa", sum := "a1dfe1460b95cf7d69871a784293551c2a572b65ed5b211190b805a1dbefd76a", func := "loop.example/g00389/laws.FnExactPopWord", spec := "fnExactPopWord", unfollowed := true, recurses := true, apart := false }
def FnExactPopWordSaid : Prop := fnExactPopWordRow.holds Try.pinned (OpenSpec.ofChange fnExactPopWordSpec)

/-- ITS FALSE NEIGHBOUR: 'it returns false'. Refute it at one input. -/
def fnExactPopWordWrong : ChangeSpec := { name := "fnExactPopWord", fn := fun _ => fun
  | [d] => { results := [.lit (.bool false)], args := [d] }
  | _ => none }
def FnExactPopWordWrongFalsely : Prop := fnExactPopWordRow.holds Try.pinned (OpenSpec.ofChange fnExactPopWordWrong)

/-- 'laws.FnExactPushWord': WHATEVER THE INPUT: true; the input reads as it did. -/
def fnExactPushWordSpec : ChangeSpec := { name := "fnExactPushWord", fn := fun _ => fun
  | [d1, d2] => { results := [.lit (.bool true)], args := [d1, d2] }
  | _ => none }
def fnExactPushWordRow : OpenClaim := { program := "ythlhapafipikmaa", sum := "a1dfe1460b95cf7d69871a784293551c2a572b65ed5b211190b805a1dbefd76a", func := "loop.example/g00389/laws.FnExactPushWord", spec := "fnExactPushWord", unfollowed := true, recurses := true, apart := false }
def FnExactPushWordSaid : Prop := fnExactPushWordRow.holds Try.pinned (OpenSpec.ofChange fnExactPushWordSpec)

/-- ITS FALSE NEIGHBOUR: 'it returns false'. Refute it at one input. -/
def fnExactPushWordWrong : ChangeSpec := { name := "fnExactPushWord", fn := fun _ => fun
  | [d1, d2] => { results := [.lit (.bool false)], args := [d1, d2] }
  | _ => none }
def FnExactPushWordWrongFalsely : Prop := fnExactPushWordRow.holds Try.pinned (OpenSpec.ofChange fnExactPushWordWrong)

/-- 'laws.FnExactEnterFault': WHATEVER THE INPUT: true; the input reads as it did. -/
def fnExactEnterFaultSpec : ChangeSpec := { name := "fnExactEnterFault", fn := fun _ => fun
  | [d1, d2] => { results := [.lit (.bool true)], args := [d1, d2] }
  | _ => none }
def fnExactEnterFaultRow : OpenClaim := { program := "ythlhapafipikmaa", sum := "a1dfe1460b95cf7d69871a784293551c2a572b65ed5b211190b805a1dbefd76a", func := "loop.example/g00389/laws.FnExactEnterFault", spec := "fnExactEnterFault", unfollowed := true, recurses := true, apart := false }
def FnExactEnterFaultSaid : Prop := fnExactEnterFaultRow.holds Try.pinned (OpenSpec.ofChange fnExactEnterFaultSpec)

/-- ITS FALSE NEIGHBOUR: 'it returns false'. Refute it at one input. -/
def fnExactEnterFaultWrong : ChangeSpec := { name := "fnExactEnterFault", fn := fun _ => fun
  | [d1, d2] => { results := [.lit (.bool false)], args := [d1, d2] }
  | _ => none }
def FnExactEnterFaultWrongFalsely : Prop := fnExactEnterFaultRow.holds Try.pinned (OpenSpec.ofChange fnExactEnterFaultWrong)

/-- 'laws.FnExactFetchIns': WHATEVER THE INPUT: true; the input reads as it did. -/
def fnExactFetchInsSpec : ChangeSpec := { name := "fnExactFetchIns", fn := fun _ => fun
  | [d] => { results := [.lit (.bool true)], args := [d] }
  | _ => none }
def fnExactFetchInsRow : OpenClaim := { program := "ythlhapafipikmaa", sum := "a1dfe1460b95cf7d69871a784293551c2a572b65ed5b211190b805a1dbefd76a", func := "loop.example/g00389/laws.FnExactFetchIns", spec := "fnExactFetchIns", unfollowed := true, recurses := true, apart := false }
def FnExactFetchInsSaid : Prop := fnExactFetchInsRow.holds Try.pinned (OpenSpec.ofChange fnExactFetchInsSpec)

/-- ITS FALSE NEIGHBOUR: 'it returns false'. Refute it at one input. -/
def fnExactFetchInsWrong : ChangeSpec := { name := "fnExactFetchIns", fn := fun _ => fun
  | [d] => { results := [.lit (.bool false)], args := [d] }
  | _ => none }
def FnExactFetchInsWrongFalsely : Prop := fnExactFetchInsRow.holds Try.pinned (OpenSpec.ofChange fnExactFetchInsWrong)

/- THE SECOND FORM. 'bulk': how many values and letters a reading holds, each counted each time it is reached (what is shared counts as often as it is met; a slice's spare places count too). A statement '..UptoSaid' is the law's where the arguments, and the package variables that the reading takes, are together of bulk at most 1048576: NARROWER than '..Said'. Prove '..Said' where nothing that the law and all that it calls make is longer than what came in: it says more and counts as full. Else prove '..UptoSaid'. A law counts once. -/
mutual
def uptoBulk {H : Type} : DataW H → Nat
  | .lit (.string bytes) => bytes.length + 1
  | .lit _ => 1
  | .nil => 1
  | .ptr d => uptoBulk d + 1
  | .slice elems spare => uptoBulkAll elems + uptoBulkAll spare + 1
  | .agg parts => uptoBulkAll parts + 1
  | .iface _ d => uptoBulk d + 1
  | .map entries => uptoBulkEntries entries + 1
  | .held _ => 1
def uptoBulkAll {H : Type} : List (DataW H) → Nat
  | [] => 0
  | d :: r => uptoBulk d + uptoBulkAll r
def uptoBulkEntries {H : Type} : List (Lit × DataW H) → Nat
  | [] => 0
  | x :: r => uptoBulkEntry x + uptoBulkEntries r
def uptoBulkEntry {H : Type} : Lit × DataW H → Nat
  | (.string bytes, d) => bytes.length + uptoBulk d + 1
  | (_, d) => uptoBulk d + 1
 end
def uptoSmall : (H : Type) → List (DataW H) → Bool := fun _ ds => decide (uptoBulkAll ds ≤ 1048576)
def OpenSpec.upto (s : _root_.Go.ChangeSpec) : _root_.Go.OpenSpec := { _root_.Go.OpenSpec.ofChange s with cond := some uptoSmall }

/-- 'laws.FnExactPopWord', WHERE WHAT IT READS IS OF BULK AT MOST 1048576: true; the input reads as it did. -/
def fnExactPopWordUptoRow : OpenClaim := { program := "ythlhapafipikmaa", sum := "a1dfe1460b95cf7d69871a784293551c2a572b65ed5b211190b805a1dbefd76a", func := "loop.example/g00389/laws.FnExactPopWord", spec := "fnExactPopWord", unfollowed := true, recurses := true, apart := false, narrowed := true }
def FnExactPopWordUptoSaid : Prop := fnExactPopWordUptoRow.holds Try.pinned (OpenSpec.upto fnExactPopWordSpec)

/-- 'laws.FnExactPushWord', WHERE WHAT IT READS IS OF BULK AT MOST 1048576: true; the input reads as it did. -/
def fnExactPushWordUptoRow : OpenClaim := { program := "ythlhapafipikmaa", sum := "a1dfe1460b95cf7d69871a784293551c2a572b65ed5b211190b805a1dbefd76a", func := "loop.example/g00389/laws.FnExactPushWord", spec := "fnExactPushWord", unfollowed := true, recurses := true, apart := false, narrowed := true }
def FnExactPushWordUptoSaid : Prop := fnExactPushWordUptoRow.holds Try.pinned (OpenSpec.upto fnExactPushWordSpec)

/-- 'laws.FnExactEnterFault', WHERE WHAT IT READS IS OF BULK AT MOST 1048576: true; the input reads as it did. -/
def fnExactEnterFaultUptoRow : OpenClaim := { program := "ythlhapafipikmaa", sum := "a1dfe1460b95cf7d69871a784293551c2a572b65ed5b211190b805a1dbefd76a", func := "loop.example/g00389/laws.FnExactEnterFault", spec := "fnExactEnterFault", unfollowed := true, recurses := true, apart := false, narrowed := true }
def FnExactEnterFaultUptoSaid : Prop := fnExactEnterFaultUptoRow.holds Try.pinned (OpenSpec.upto fnExactEnterFaultSpec)

/-- 'laws.FnExactFetchIns', WHERE WHAT IT READS IS OF BULK AT MOST 1048576: true; the input reads as it did. -/
def fnExactFetchInsUptoRow : OpenClaim := { program := "ythlhapafipikmaa", sum := "a1dfe1460b95cf7d69871a784293551c2a572b65ed5b211190b805a1dbefd76a", func := "loop.example/g00389/laws.FnExactFetchIns", spec := "fnExactFetchIns", unfollowed := true, recurses := true, apart := false, narrowed := true }
def FnExactFetchInsUptoSaid : Prop := fnExactFetchInsUptoRow.holds Try.pinned (OpenSpec.upto fnExactFetchInsSpec)

end Rows
end Go.Proofs.Ythlhapafipikmaa
