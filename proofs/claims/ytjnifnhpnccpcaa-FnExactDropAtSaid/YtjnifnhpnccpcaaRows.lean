/-
  No cell of these rows narrows 'for every input' (looked for: loops, veiled, ifaces, maps, wideKeys, modest, calm, conditions, laid).
  DERIVED. THE GIVEN ROWS OF THIS SEAT. 7 by the template 'for every input the law returns true; each argument reads behind the call as it read before'; 0 by the template 'total and deterministic' (their statements: YtjnifnhpnccpcaaTotals.lean).
  GIVEN WITH THE SEED: the statements are not yours to turn. If you find one false, say at which input.
  Laid BY PROGRAM, IN A SANDBOX (cutbox-rows.mjs): the forced cells as the released guide's own fill.sh prints them over the translation e147e120f1ae3ac4… (all of the seat's roots in one cut). By AI agents, Wed Nov 11 2026. No macro, syntax, notation, axiom, sorry.
-/
import Derived.Test.YtjnifnhpnccpcaaChecked
import GoSem.Claim
import GoSem.ClaimJoined
import GoSem.ClaimMapViews
import Derived.JoinedTies
import Derived.KernelRfl
namespace Go.Proofs.Ytjnifnhpnccpcaa
/- THE CELL 'sum', in the pinned program and in every row, IS THE sha256 OF THE DUMP (.gsa) THAT YtjnifnhpnccpcaaProg.lean LOADS. Nothing in Lean hashes anything: it is a label: what it is worth is what the hold of that sum in a sandbox is worth. -/
noncomputable def Try.pinned : Pinned := { name := "ytjnifnhpnccpcaa", sum := "e147e120f1ae3ac40fc311979728ad65a3c22d3ddc81aabb6188bc23fe112101", checked := Try.checked }
namespace Rows
def none {H : Type} : Left H := { results := [], args := [] }

/-- 'laws.FnExactDeadFlags': WHATEVER THE INPUT: true; the input reads as it did. -/
def fnExactDeadFlagsSpec : ChangeSpec := { name := "fnExactDeadFlags", fn := fun _ => fun
  | [d] => { results := [.lit (.bool true)], args := [d] }
  | _ => none }
def fnExactDeadFlagsRow : OpenClaim := { program := "ytjnifnhpnccpcaa", sum := "e147e120f1ae3ac40fc311979728ad65a3c22d3ddc81aabb6188bc23fe112101", func := "loop.example/g00389/laws.FnExactDeadFlags", spec := "fnExactDeadFlags", unfollowed := true, recurses := true, apart := false }
def FnExactDeadFlagsSaid : Prop := fnExactDeadFlagsRow.holds Try.pinned (OpenSpec.ofChange fnExactDeadFlagsSpec)

/-- ITS FALSE NEIGHBOUR: 'it returns false'. Refute it at one input. -/
def fnExactDeadFlagsWrong : ChangeSpec := { name := "fnExactDeadFlags", fn := fun _ => fun
  | [d] => { results := [.lit (.bool false)], args := [d] }
  | _ => none }
def FnExactDeadFlagsWrongFalsely : Prop := fnExactDeadFlagsRow.holds Try.pinned (OpenSpec.ofChange fnExactDeadFlagsWrong)

/-- 'laws.FnExactGoodUnit': WHATEVER THE INPUT: true; the input reads as it did. -/
def fnExactGoodUnitSpec : ChangeSpec := { name := "fnExactGoodUnit", fn := fun _ => fun
  | [d] => { results := [.lit (.bool true)], args := [d] }
  | _ => none }
def fnExactGoodUnitRow : OpenClaim := { program := "ytjnifnhpnccpcaa", sum := "e147e120f1ae3ac40fc311979728ad65a3c22d3ddc81aabb6188bc23fe112101", func := "loop.example/g00389/laws.FnExactGoodUnit", spec := "fnExactGoodUnit", apart := false }
def FnExactGoodUnitSaid : Prop := fnExactGoodUnitRow.holds Try.pinned (OpenSpec.ofChange fnExactGoodUnitSpec)

/-- ITS FALSE NEIGHBOUR: 'it returns false'. Refute it at one input. -/
def fnExactGoodUnitWrong : ChangeSpec := { name := "fnExactGoodUnit", fn := fun _ => fun
  | [d] => { results := [.lit (.bool false)], args := [d] }
  | _ => none }
def FnExactGoodUnitWrongFalsely : Prop := fnExactGoodUnitRow.holds Try.pinned (OpenSpec.ofChange fnExactGoodUnitWrong)

/-- 'laws.FnExactOverlaps': WHATEVER THE INPUT: true; the input reads as it did. -/
def fnExactOverlapsSpec : ChangeSpec := { name := "fnExactOverlaps", fn := fun _ => fun
  | [d1, d2, d3] => { results := [.lit (.bool true)], args := [d1, d2, d3] }
  | _ => none }
def fnExactOverlapsRow : OpenClaim := { program := "ytjnifnhpnccpcaa", sum := "e147e120f1ae3ac40fc311979728ad65a3c22d3ddc81aabb6188bc23fe112101", func := "loop.example/g00389/laws.FnExactOverlaps", spec := "fnExactOverlaps", apart := false }
def FnExactOverlapsSaid : Prop := fnExactOverlapsRow.holds Try.pinned (OpenSpec.ofChange fnExactOverlapsSpec)

/-- ITS FALSE NEIGHBOUR: 'it returns false'. Refute it at one input. -/
def fnExactOverlapsWrong : ChangeSpec := { name := "fnExactOverlaps", fn := fun _ => fun
  | [d1, d2, d3] => { results := [.lit (.bool false)], args := [d1, d2, d3] }
  | _ => none }
def FnExactOverlapsWrongFalsely : Prop := fnExactOverlapsRow.holds Try.pinned (OpenSpec.ofChange fnExactOverlapsWrong)

/-- 'laws.FnExactWordsOf': WHATEVER THE INPUT: true; the input reads as it did. -/
def fnExactWordsOfSpec : ChangeSpec := { name := "fnExactWordsOf", fn := fun _ => fun
  | [d] => { results := [.lit (.bool true)], args := [d] }
  | _ => none }
def fnExactWordsOfRow : OpenClaim := { program := "ytjnifnhpnccpcaa", sum := "e147e120f1ae3ac40fc311979728ad65a3c22d3ddc81aabb6188bc23fe112101", func := "loop.example/g00389/laws.FnExactWordsOf", spec := "fnExactWordsOf", apart := false }
def FnExactWordsOfSaid : Prop := fnExactWordsOfRow.holds Try.pinned (OpenSpec.ofChange fnExactWordsOfSpec)

/-- ITS FALSE NEIGHBOUR: 'it returns false'. Refute it at one input. -/
def fnExactWordsOfWrong : ChangeSpec := { name := "fnExactWordsOf", fn := fun _ => fun
  | [d] => { results := [.lit (.bool false)], args := [d] }
  | _ => none }
def FnExactWordsOfWrongFalsely : Prop := fnExactWordsOfRow.holds Try.pinned (OpenSpec.ofChange fnExactWordsOfWrong)

/-- 'laws.FnExactGoodStore': WHATEVER THE INPUT: true; the input reads as it did. -/
def fnExactGoodStoreSpec : ChangeSpec := { name := "fnExactGoodStore", fn := fun _ => fun
  | [d] => { results := [.lit (.bool true)], args := [d] }
  | _ => none }
def fnExactGoodStoreRow : OpenClaim := { program := "ytjnifnhpnccpcaa", sum := "e147e120f1ae3ac40fc311979728ad65a3c22d3ddc81aabb6188bc23fe112101", func := "loop.example/g00389/laws.FnExactGoodStore", spec := "fnExactGoodStore", unfollowed := true, recurses := true, apart := false }
def FnExactGoodStoreSaid : Prop := fnExactGoodStoreRow.holds Try.pinned (OpenSpec.ofChange fnExactGoodStoreSpec)

/-- ITS FALSE NEIGHBOUR: 'it returns false'. Refute it at one input. -/
def fnExactGoodStoreWrong : ChangeSpec := { name := "fnExactGoodStore", fn := fun _ => fun
  | [d] => { results := [.lit (.bool false)], args := [d] }
  | _ => none }
def FnExactGoodStoreWrongFalsely : Prop := fnExactGoodStoreRow.holds Try.pinned (OpenSpec.ofChange fnExactGoodStoreWrong)

/-- 'laws.FnExactFindUnit': WHATEVER THE INPUT: true; the input reads as it did. -/
def fnExactFindUnitSpec : ChangeSpec := { name := "fnExactFindUnit", fn := fun _ => fun
  | [d1, d2] => { results := [.lit (.bool true)], args := [d1, d2] }
  | _ => none }
def fnExactFindUnitRow : OpenClaim := { program := "ytjnifnhpnccpcaa", sum := "e147e120f1ae3ac40fc311979728ad65a3c22d3ddc81aabb6188bc23fe112101", func := "loop.example/g00389/laws.FnExactFindUnit", spec := "fnExactFindUnit", unfollowed := true, recurses := true, apart := false }
def FnExactFindUnitSaid : Prop := fnExactFindUnitRow.holds Try.pinned (OpenSpec.ofChange fnExactFindUnitSpec)

/-- ITS FALSE NEIGHBOUR: 'it returns false'. Refute it at one input. -/
def fnExactFindUnitWrong : ChangeSpec := { name := "fnExactFindUnit", fn := fun _ => fun
  | [d1, d2] => { results := [.lit (.bool false)], args := [d1, d2] }
  | _ => none }
def FnExactFindUnitWrongFalsely : Prop := fnExactFindUnitRow.holds Try.pinned (OpenSpec.ofChange fnExactFindUnitWrong)

/-- 'laws.FnExactDropAt': WHATEVER THE INPUT: true; the input reads as it did. -/
def fnExactDropAtSpec : ChangeSpec := { name := "fnExactDropAt", fn := fun _ => fun
  | [d1, d2, d3] => { results := [.lit (.bool true)], args := [d1, d2, d3] }
  | _ => none }
def fnExactDropAtRow : OpenClaim := { program := "ytjnifnhpnccpcaa", sum := "e147e120f1ae3ac40fc311979728ad65a3c22d3ddc81aabb6188bc23fe112101", func := "loop.example/g00389/laws.FnExactDropAt", spec := "fnExactDropAt", unfollowed := true, recurses := true, apart := false }
def FnExactDropAtSaid : Prop := fnExactDropAtRow.holds Try.pinned (OpenSpec.ofChange fnExactDropAtSpec)

/-- ITS FALSE NEIGHBOUR: 'it returns false'. Refute it at one input. -/
def fnExactDropAtWrong : ChangeSpec := { name := "fnExactDropAt", fn := fun _ => fun
  | [d1, d2, d3] => { results := [.lit (.bool false)], args := [d1, d2, d3] }
  | _ => none }
def FnExactDropAtWrongFalsely : Prop := fnExactDropAtRow.holds Try.pinned (OpenSpec.ofChange fnExactDropAtWrong)

/- THE SECOND FORM. 'bulk': how many values and letters a reading holds, each counted each time it is reached (what is shared counts as often as it is met; a slice's spare places count too). A statement '..UptoSaid' is the law's where the arguments, and the package variables that the reading takes, are together of bulk at most 1048576: NARROWER than '..Said'. Prove '..Said' where nothing that the law and all that it calls make is longer than what came in: it says more and counts as full. Else prove '..UptoSaid'. A law counts once. -/
mutual
def uptoBulk {H : Type} : DataW H → Nat
  | .lit (.string bytes) => bytes.length + 1
  | .lit _ => 1
  | .nil => 1
  | .ptr d => uptoBulk d + 1
  | .slice elems spare => uptoBulkAll elems + uptoBulkAll spare + 1
  | .agg parts => uptoBulkAll parts + 1
  | .iface _ d => uptoBulk d + 1
  | .map entries => uptoBulkEntries entries + 1
  | .held _ => 1
def uptoBulkAll {H : Type} : List (DataW H) → Nat
  | [] => 0
  | d :: r => uptoBulk d + uptoBulkAll r
def uptoBulkEntries {H : Type} : List (Lit × DataW H) → Nat
  | [] => 0
  | x :: r => uptoBulkEntry x + uptoBulkEntries r
def uptoBulkEntry {H : Type} : Lit × DataW H → Nat
  | (.string bytes, d) => bytes.length + uptoBulk d + 1
  | (_, d) => uptoBulk d + 1
 end
def uptoSmall : (H : Type) → List (DataW H) → Bool := fun _ ds => decide (uptoBulkAll ds ≤ 1048576)
def OpenSpec.upto (s : _root_.Go.ChangeSpec) : _root_.Go.OpenSpec := { _root_.Go.OpenSpec.ofChange s with cond := some uptoSmall }

/-- 'laws.FnExactDeadFlags', WHERE WHAT IT READS IS OF BULK AT MOST 1048576: true; the input reads as it did. -/
def fnExactDeadFlagsUptoRow : OpenClaim := { program := "ytjnifnhpnccpcaa", sum := "e147e120f1ae3ac40fc311979728ad65a3c22d3ddc81aabb6188bc23fe112101", func := "loop.example/g00389/laws.FnExactDeadFlags", spec := "fnExactDeadFlags", unfollowed := true, recurses := true, apart := false, narrowed := true }
def FnExactDeadFlagsUptoSaid : Prop := fnExactDeadFlagsUptoRow.holds Try.pinned (OpenSpec.upto fnExactDeadFlagsSpec)

/-- 'laws.FnExactGoodUnit', WHERE WHAT IT READS IS OF BULK AT MOST 1048576: true; the input reads as it did. -/
def fnExactGoodUnitUptoRow : OpenClaim := { program := "ytjnifnhpnccpcaa", sum := "e147e120f1ae3ac40fc311979728ad65a3c22d3ddc81aabb6188bc23fe112101", func := "loop.example/g00389/laws.FnExactGoodUnit", spec := "fnExactGoodUnit", apart := false, narrowed := true }
def FnExactGoodUnitUptoSaid : Prop := fnExactGoodUnitUptoRow.holds Try.pinned (OpenSpec.upto fnExactGoodUnitSpec)

/-- 'laws.FnExactOverlaps', WHERE WHAT IT READS IS OF BULK AT MOST 1048576: true; the input reads as it did. -/
def fnExactOverlapsUptoRow : OpenClaim := { program := "ytjnifnhpnccpcaa", sum := "e147e120f1ae3ac40fc311979728ad65a3c22d3ddc81aabb6188bc23fe112101", func := "loop.example/g00389/laws.FnExactOverlaps", spec := "fnExactOverlaps", apart := false, narrowed := true }
def FnExactOverlapsUptoSaid : Prop := fnExactOverlapsUptoRow.holds Try.pinned (OpenSpec.upto fnExactOverlapsSpec)

/-- 'laws.FnExactWordsOf', WHERE WHAT IT READS IS OF BULK AT MOST 1048576: true; the input reads as it did. -/
def fnExactWordsOfUptoRow : OpenClaim := { program := "ytjnifnhpnccpcaa", sum := "e147e120f1ae3ac40fc311979728ad65a3c22d3ddc81aabb6188bc23fe112101", func := "loop.example/g00389/laws.FnExactWordsOf", spec := "fnExactWordsOf", apart := false, narrowed := true }
def FnExactWordsOfUptoSaid : Prop := fnExactWordsOfUptoRow.holds Try.pinned (OpenSpec.upto fnExactWordsOfSpec)

/-- 'laws.FnExactGoodStore', WHERE WHAT IT READS IS OF BULK AT MOST 1048576: true; the input reads as it did. -/
def fnExactGoodStoreUptoRow : OpenClaim := { program := "ytjnifnhpnccpcaa", sum := "e147e120f1ae3ac40fc311979728ad65a3c22d3ddc81aabb6188bc23fe112101", func := "loop.example/g00389/laws.FnExactGoodStore", spec := "fnExactGoodStore", unfollowed := true, recurses := true, apart := false, narrowed := true }
def FnExactGoodStoreUptoSaid : Prop := fnExactGoodStoreUptoRow.holds Try.pinned (OpenSpec.upto fnExactGoodStoreSpec)

/-- 'laws.FnExactFindUnit', WHERE WHAT IT READS IS OF BULK AT MOST 1048576: true; the input reads as it did. -/
def fnExactFindUnitUptoRow : OpenClaim := { program := "ytjnifnhpnccpcaa", sum := "e147e120f1ae3ac40fc311979728ad65a3c22d3ddc81aabb6188bc23fe112101", func := "loop.example/g00389/laws.FnExactFindUnit", spec := "fnExactFindUnit", unfollowed := true, recurses := true, apart := false, narrowed := true }
def FnExactFindUnitUptoSaid : Prop := fnExactFindUnitUptoRow.holds Try.pinned (OpenSpec.upto fnExactFindUnitSpec)

/-- 'laws.FnExactDropAt', WHERE WHAT IT READS IS OF BULK AT MOST 1048576: true; the input reads as it did. -/
def fnExactDropAtUptoRow : OpenClaim := { program := "ytjnifnhpnccpcaa", sum := "e147e120f1ae3ac40fc311979728ad65a3c22d3ddc81aabb6188bc23fe112101", func := "loop.example/g00389/laws.FnExactDropAt", spec := "fnExactDropAt", unfollowed := true, recurses := true, apart := false, narrowed := true }
def FnExactDropAtUptoSaid : Prop := fnExactDropAtUptoRow.holds Try.pinned (OpenSpec.upto fnExactDropAtSpec)

end Rows
end Go.Proofs.Ytjnifnhpnccpcaa
