/-
  No cell of these rows narrows 'for every input' (looked for: loops, veiled, ifaces, maps, wideKeys, modest, calm, conditions, laid).
  DERIVED. THE GIVEN ROWS OF THIS SEAT. 12 by the template 'for every input the law returns true; each argument reads behind the call as it read before'; 0 by the template 'total and deterministic' (their statements: YtaalmfjpdgdnaaaTotals.lean).
  GIVEN WITH THE SEED: the statements are not yours to turn. If you find one false, say at which input.
  Laid BY PROGRAM, IN A SANDBOX (cutbox-rows.mjs): the forced cells as the released guide's own fill.sh prints them over the translation e3c0259d671e0fe8… (all of the seat's roots in one cut). By AI agents, Wed Nov 11 2026. No macro, syntax, notation, axiom, sorry.
-/
import Derived.Test.YtaalmfjpdgdnaaaChecked
import GoSem.Claim
import GoSem.ClaimJoined
import GoSem.ClaimMapViews
import Derived.JoinedTies
import Derived.KernelRfl
namespace Go.Proofs.Ytaalmfjpdgdnaaa
/- THE CELL 'sum', in the pinned program and in every row, IS THE sha256 OF THE DUMP (.gsa) THAT YtaalmfjpdgdnaaaProg.lean LOADS. Nothing in Lean hashes anything: it is a label: what it is worth is what the hold of that sum in a sandbox is worth. -/
noncomputable def Try.pinned : Pinned := { name := "ytaalmfjpdgdnaaa", sum := "e3c0259d671e0fe86d7a8de6e0a447e915c8b54753d97d4b2066ba1f4fb2fb36", checked := Try.checked }
namespace Rows
def none {H : Type} : Left H := { results := [], args := [] }

/-- 'laws.FnExactMulWords': WHATEVER THE INPUT: true; the input reads as it did. -/
def fnExactMulWordsSpec : ChangeSpec := { name := "fnExactMulWords", fn := fun _ => fun
  | [d1, d2] => { results := [.lit (.bool true)], args := [d1, d2] }
  | _ => none }
def fnExactMulWordsRow : OpenClaim := { program := "ytaalmfjpdgdnaaa", sum := "e3c0259d671e0fe86d7a8de6e0a447e915c8b54753d97d4b2066ba1f4fb2fb36", func := "loop.example/g00389/laws.FnExactMulWords", spec := "fnExactMulWords", apart := false }
def FnExactMulWordsSaid : Prop := fnExactMulWordsRow.holds Try.pinned (OpenSpec.ofChange fnExactMulWordsSpec)

/-- ITS FALSE NEIGHBOUR: 'it returns false'. Refute it at one input. -/
def fnExactMulWordsWrong : ChangeSpec := { name := "fnExactMulWords", fn := fun _ => fun
  | [d1, d2] => { results := [.lit (.bool false)], args := [d1, d2] }
  | _ => none }
def FnExactMulWordsWrongFalsely : Prop := fnExactMulWordsRow.holds Try.pinned (OpenSpec.ofChange fnExactMulWordsWrong)

/-- 'laws.FnExactRootOf': WHATEVER THE INPUT: true; the input reads as it did. -/
def fnExactRootOfSpec : ChangeSpec := { name := "fnExactRootOf", fn := fun _ => fun
  | [d] => { results := [.lit (.bool true)], args := [d] }
  | _ => none }
def fnExactRootOfRow : OpenClaim := { program := "ytaalmfjpdgdnaaa", sum := "e3c0259d671e0fe86d7a8de6e0a447e915c8b54753d97d4b2066ba1f4fb2fb36", func := "loop.example/g00389/laws.FnExactRootOf", spec := "fnExactRootOf", apart := false }
def FnExactRootOfSaid : Prop := fnExactRootOfRow.holds Try.pinned (OpenSpec.ofChange fnExactRootOfSpec)

/-- ITS FALSE NEIGHBOUR: 'it returns false'. Refute it at one input. -/
def fnExactRootOfWrong : ChangeSpec := { name := "fnExactRootOf", fn := fun _ => fun
  | [d] => { results := [.lit (.bool false)], args := [d] }
  | _ => none }
def FnExactRootOfWrongFalsely : Prop := fnExactRootOfRow.holds Try.pinned (OpenSpec.ofChange fnExactRootOfWrong)

/-- 'laws.FnExactGoodFault': WHATEVER THE INPUT: true; the input reads as it did. -/
def fnExactGoodFaultSpec : ChangeSpec := { name := "fnExactGoodFault", fn := fun _ => fun
  | [d] => { results := [.lit (.bool true)], args := [d] }
  | _ => none }
def fnExactGoodFaultRow : OpenClaim := { program := "ytaalmfjpdgdnaaa", sum := "e3c0259d671e0fe86d7a8de6e0a447e915c8b54753d97d4b2066ba1f4fb2fb36", func := "loop.example/g00389/laws.FnExactGoodFault", spec := "fnExactGoodFault", apart := false }
def FnExactGoodFaultSaid : Prop := fnExactGoodFaultRow.holds Try.pinned (OpenSpec.ofChange fnExactGoodFaultSpec)

/-- ITS FALSE NEIGHBOUR: 'it returns false'. Refute it at one input. -/
def fnExactGoodFaultWrong : ChangeSpec := { name := "fnExactGoodFault", fn := fun _ => fun
  | [d] => { results := [.lit (.bool false)], args := [d] }
  | _ => none }
def FnExactGoodFaultWrongFalsely : Prop := fnExactGoodFaultRow.holds Try.pinned (OpenSpec.ofChange fnExactGoodFaultWrong)

/-- 'laws.FnExactGoodFlagOp': WHATEVER THE INPUT: true; the input reads as it did. -/
def fnExactGoodFlagOpSpec : ChangeSpec := { name := "fnExactGoodFlagOp", fn := fun _ => fun
  | [d] => { results := [.lit (.bool true)], args := [d] }
  | _ => none }
def fnExactGoodFlagOpRow : OpenClaim := { program := "ytaalmfjpdgdnaaa", sum := "e3c0259d671e0fe86d7a8de6e0a447e915c8b54753d97d4b2066ba1f4fb2fb36", func := "loop.example/g00389/laws.FnExactGoodFlagOp", spec := "fnExactGoodFlagOp", apart := false }
def FnExactGoodFlagOpSaid : Prop := fnExactGoodFlagOpRow.holds Try.pinned (OpenSpec.ofChange fnExactGoodFlagOpSpec)

/-- ITS FALSE NEIGHBOUR: 'it returns false'. Refute it at one input. -/
def fnExactGoodFlagOpWrong : ChangeSpec := { name := "fnExactGoodFlagOp", fn := fun _ => fun
  | [d] => { results := [.lit (.bool false)], args := [d] }
  | _ => none }
def FnExactGoodFlagOpWrongFalsely : Prop := fnExactGoodFlagOpRow.holds Try.pinned (OpenSpec.ofChange fnExactGoodFlagOpWrong)

/-- 'laws.FnExactMulSigned': WHATEVER THE INPUT: true; the input reads as it did. -/
def fnExactMulSignedSpec : ChangeSpec := { name := "fnExactMulSigned", fn := fun _ => fun
  | [d1, d2] => { results := [.lit (.bool true)], args := [d1, d2] }
  | _ => none }
def fnExactMulSignedRow : OpenClaim := { program := "ytaalmfjpdgdnaaa", sum := "e3c0259d671e0fe86d7a8de6e0a447e915c8b54753d97d4b2066ba1f4fb2fb36", func := "loop.example/g00389/laws.FnExactMulSigned", spec := "fnExactMulSigned", apart := false }
def FnExactMulSignedSaid : Prop := fnExactMulSignedRow.holds Try.pinned (OpenSpec.ofChange fnExactMulSignedSpec)

/-- ITS FALSE NEIGHBOUR: 'it returns false'. Refute it at one input. -/
def fnExactMulSignedWrong : ChangeSpec := { name := "fnExactMulSigned", fn := fun _ => fun
  | [d1, d2] => { results := [.lit (.bool false)], args := [d1, d2] }
  | _ => none }
def FnExactMulSignedWrongFalsely : Prop := fnExactMulSignedRow.holds Try.pinned (OpenSpec.ofChange fnExactMulSignedWrong)

/-- 'laws.FnExactDivWords': WHATEVER THE INPUT: true; the input reads as it did. -/
def fnExactDivWordsSpec : ChangeSpec := { name := "fnExactDivWords", fn := fun _ => fun
  | [d1, d2, d3] => { results := [.lit (.bool true)], args := [d1, d2, d3] }
  | _ => none }
def fnExactDivWordsRow : OpenClaim := { program := "ytaalmfjpdgdnaaa", sum := "e3c0259d671e0fe86d7a8de6e0a447e915c8b54753d97d4b2066ba1f4fb2fb36", func := "loop.example/g00389/laws.FnExactDivWords", spec := "fnExactDivWords", apart := false }
def FnExactDivWordsSaid : Prop := fnExactDivWordsRow.holds Try.pinned (OpenSpec.ofChange fnExactDivWordsSpec)

/-- ITS FALSE NEIGHBOUR: 'it returns false'. Refute it at one input. -/
def fnExactDivWordsWrong : ChangeSpec := { name := "fnExactDivWords", fn := fun _ => fun
  | [d1, d2, d3] => { results := [.lit (.bool false)], args := [d1, d2, d3] }
  | _ => none }
def FnExactDivWordsWrongFalsely : Prop := fnExactDivWordsRow.holds Try.pinned (OpenSpec.ofChange fnExactDivWordsWrong)

/-- 'laws.FnExactIsLongFrame': WHATEVER THE INPUT: true; the input reads as it did. -/
def fnExactIsLongFrameSpec : ChangeSpec := { name := "fnExactIsLongFrame", fn := fun _ => fun
  | [d] => { results := [.lit (.bool true)], args := [d] }
  | _ => none }
def fnExactIsLongFrameRow : OpenClaim := { program := "ytaalmfjpdgdnaaa", sum := "e3c0259d671e0fe86d7a8de6e0a447e915c8b54753d97d4b2066ba1f4fb2fb36", func := "loop.example/g00389/laws.FnExactIsLongFrame", spec := "fnExactIsLongFrame", apart := false }
def FnExactIsLongFrameSaid : Prop := fnExactIsLongFrameRow.holds Try.pinned (OpenSpec.ofChange fnExactIsLongFrameSpec)

/-- ITS FALSE NEIGHBOUR: 'it returns false'. Refute it at one input. -/
def fnExactIsLongFrameWrong : ChangeSpec := { name := "fnExactIsLongFrame", fn := fun _ => fun
  | [d] => { results := [.lit (.bool false)], args := [d] }
  | _ => none }
def FnExactIsLongFrameWrongFalsely : Prop := fnExactIsLongFrameRow.holds Try.pinned (OpenSpec.ofChange fnExactIsLongFrameWrong)

/-- 'laws.FnExactBoothDigits': WHATEVER THE INPUT: true; the input reads as it did. -/
def fnExactBoothDigitsSpec : ChangeSpec := { name := "fnExactBoothDigits", fn := fun _ => fun
  | [d] => { results := [.lit (.bool true)], args := [d] }
  | _ => none }
def fnExactBoothDigitsRow : OpenClaim := { program := "ytaalmfjpdgdnaaa", sum := "e3c0259d671e0fe86d7a8de6e0a447e915c8b54753d97d4b2066ba1f4fb2fb36", func := "loop.example/g00389/laws.FnExactBoothDigits", spec := "fnExactBoothDigits", apart := false }
def FnExactBoothDigitsSaid : Prop := fnExactBoothDigitsRow.holds Try.pinned (OpenSpec.ofChange fnExactBoothDigitsSpec)

/-- ITS FALSE NEIGHBOUR: 'it returns false'. Refute it at one input. -/
def fnExactBoothDigitsWrong : ChangeSpec := { name := "fnExactBoothDigits", fn := fun _ => fun
  | [d] => { results := [.lit (.bool false)], args := [d] }
  | _ => none }
def FnExactBoothDigitsWrongFalsely : Prop := fnExactBoothDigitsRow.holds Try.pinned (OpenSpec.ofChange fnExactBoothDigitsWrong)

/-- 'laws.FnExactGoodLazy': WHATEVER THE INPUT: true; the input reads as it did. -/
def fnExactGoodLazySpec : ChangeSpec := { name := "fnExactGoodLazy", fn := fun _ => fun
  | [d] => { results := [.lit (.bool true)], args := [d] }
  | _ => none }
def fnExactGoodLazyRow : OpenClaim := { program := "ytaalmfjpdgdnaaa", sum := "e3c0259d671e0fe86d7a8de6e0a447e915c8b54753d97d4b2066ba1f4fb2fb36", func := "loop.example/g00389/laws.FnExactGoodLazy", spec := "fnExactGoodLazy", apart := false }
def FnExactGoodLazySaid : Prop := fnExactGoodLazyRow.holds Try.pinned (OpenSpec.ofChange fnExactGoodLazySpec)

/-- ITS FALSE NEIGHBOUR: 'it returns false'. Refute it at one input. -/
def fnExactGoodLazyWrong : ChangeSpec := { name := "fnExactGoodLazy", fn := fun _ => fun
  | [d] => { results := [.lit (.bool false)], args := [d] }
  | _ => none }
def FnExactGoodLazyWrongFalsely : Prop := fnExactGoodLazyRow.holds Try.pinned (OpenSpec.ofChange fnExactGoodLazyWrong)

/-- 'laws.FnExactMulBooth': WHATEVER THE INPUT: true; the input reads as it did. -/
def fnExactMulBoothSpec : ChangeSpec := { name := "fnExactMulBooth", fn := fun _ => fun
  | [d1, d2] => { results := [.lit (.bool true)], args := [d1, d2] }
  | _ => none }
def fnExactMulBoothRow : OpenClaim := { program := "ytaalmfjpdgdnaaa", sum := "e3c0259d671e0fe86d7a8de6e0a447e915c8b54753d97d4b2066ba1f4fb2fb36", func := "loop.example/g00389/laws.FnExactMulBooth", spec := "fnExactMulBooth", apart := false }
def FnExactMulBoothSaid : Prop := fnExactMulBoothRow.holds Try.pinned (OpenSpec.ofChange fnExactMulBoothSpec)

/-- ITS FALSE NEIGHBOUR: 'it returns false'. Refute it at one input. -/
def fnExactMulBoothWrong : ChangeSpec := { name := "fnExactMulBooth", fn := fun _ => fun
  | [d1, d2] => { results := [.lit (.bool false)], args := [d1, d2] }
  | _ => none }
def FnExactMulBoothWrongFalsely : Prop := fnExactMulBoothRow.holds Try.pinned (OpenSpec.ofChange fnExactMulBoothWrong)

/-- 'laws.FnExactDivSteps': WHATEVER THE INPUT: true; the input reads as it did. -/
def fnExactDivStepsSpec : ChangeSpec := { name := "fnExactDivSteps", fn := fun _ => fun
  | [d1, d2] => { results := [.lit (.bool true)], args := [d1, d2] }
  | _ => none }
def fnExactDivStepsRow : OpenClaim := { program := "ytaalmfjpdgdnaaa", sum := "e3c0259d671e0fe86d7a8de6e0a447e915c8b54753d97d4b2066ba1f4fb2fb36", func := "loop.example/g00389/laws.FnExactDivSteps", spec := "fnExactDivSteps", apart := false }
def FnExactDivStepsSaid : Prop := fnExactDivStepsRow.holds Try.pinned (OpenSpec.ofChange fnExactDivStepsSpec)

/-- ITS FALSE NEIGHBOUR: 'it returns false'. Refute it at one input. -/
def fnExactDivStepsWrong : ChangeSpec := { name := "fnExactDivSteps", fn := fun _ => fun
  | [d1, d2] => { results := [.lit (.bool false)], args := [d1, d2] }
  | _ => none }
def FnExactDivStepsWrongFalsely : Prop := fnExactDivStepsRow.holds Try.pinned (OpenSpec.ofChange fnExactDivStepsWrong)

/-- 'laws.FnExactNoteFlagOp': WHATEVER THE INPUT: true; the input reads as it did. -/
def fnExactNoteFlagOpSpec : ChangeSpec := { name := "fnExactNoteFlagOp", fn := fun _ => fun
  | [d1, d2] => { results := [.lit (.bool true)], args := [d1, d2] }
  | _ => none }
def fnExactNoteFlagOpRow : OpenClaim := { program := "ytaalmfjpdgdnaaa", sum := "e3c0259d671e0fe86d7a8de6e0a447e915c8b54753d97d4b2066ba1f4fb2fb36", func := "loop.example/g00389/laws.FnExactNoteFlagOp", spec := "fnExactNoteFlagOp", apart := false }
def FnExactNoteFlagOpSaid : Prop := fnExactNoteFlagOpRow.holds Try.pinned (OpenSpec.ofChange fnExactNoteFlagOpSpec)

/-- ITS FALSE NEIGHBOUR: 'it returns false'. Refute it at one input. -/
def fnExactNoteFlagOpWrong : ChangeSpec := { name := "fnExactNoteFlagOp", fn := fun _ => fun
  | [d1, d2] => { results := [.lit (.bool false)], args := [d1, d2] }
  | _ => none }
def FnExactNoteFlagOpWrongFalsely : Prop := fnExactNoteFlagOpRow.holds Try.pinned (OpenSpec.ofChange fnExactNoteFlagOpWrong)

/- THE SECOND FORM. 'bulk': how many values and letters a reading holds, each counted each time it is reached (what is shared counts as often as it is met; a slice's spare places count too). A statement '..UptoSaid' is the law's where the arguments, and the package variables that the reading takes, are together of bulk at most 1048576: NARROWER than '..Said'. Prove '..Said' where nothing that the law and all that it calls make is longer than what came in: it says more and counts as full. Else prove '..UptoSaid'. A law counts once. -/
mutual
def uptoBulk {H : Type} : DataW H → Nat
  | .lit (.string bytes) => bytes.length + 1
  | .lit _ => 1
  | .nil => 1
  | .ptr d => uptoBulk d + 1
  | .slice elems spare => uptoBulkAll elems + uptoBulkAll spare + 1
  | .agg parts => uptoBulkAll parts + 1
  | .iface _ d => uptoBulk d + 1
  | .map entries => uptoBulkEntries entries + 1
  | .held _ => 1
def uptoBulkAll {H : Type} : List (DataW H) → Nat
  | [] => 0
  | d :: r => uptoBulk d + uptoBulkAll r
def uptoBulkEntries {H : Type} : List (Lit × DataW H) → Nat
  | [] => 0
  | x :: r => uptoBulkEntry x + uptoBulkEntries r
def uptoBulkEntry {H : Type} : Lit × DataW H → Nat
  | (.string bytes, d) => bytes.length + uptoBulk d + 1
  | (_, d) => uptoBulk d + 1
 end
def uptoSmall : (H : Type) → List (DataW H) → Bool := fun _ ds => decide (uptoBulkAll ds ≤ 1048576)
def OpenSpec.upto (s : _root_.Go.ChangeSpec) : _root_.Go.OpenSpec := { _root_.Go.OpenSpec.ofChange s with cond := some uptoSmall }

/-- 'laws.FnExactMulWords', WHERE WHAT IT READS IS OF BULK AT MOST 1048576: true; the input reads as it did. -/
def fnExactMulWordsUptoRow : OpenClaim := { program := "ytaalmfjpdgdnaaa", sum := "e3c0259d671e0fe86d7a8de6e0a447e915c8b54753d97d4b2066ba1f4fb2fb36", func := "loop.example/g00389/laws.FnExactMulWords", spec := "fnExactMulWords", apart := false, narrowed := true }
def FnExactMulWordsUptoSaid : Prop := fnExactMulWordsUptoRow.holds Try.pinned (OpenSpec.upto fnExactMulWordsSpec)

/-- 'laws.FnExactRootOf', WHERE WHAT IT READS IS OF BULK AT MOST 1048576: true; the input reads as it did. -/
def fnExactRootOfUptoRow : OpenClaim := { program := "ytaalmfjpdgdnaaa", sum := "e3c0259d671e0fe86d7a8de6e0a447e915c8b54753d97d4b2066ba1f4fb2fb36", func := "loop.example/g00389/laws.FnExactRootOf", spec := "fnExactRootOf", apart := false, narrowed := true }
def FnExactRootOfUptoSaid : Prop := fnExactRootOfUptoRow.holds Try.pinned (OpenSpec.upto fnExactRootOfSpec)

/-- 'laws.FnExactGoodFault', WHERE WHAT IT READS IS OF BULK AT MOST 1048576: true; the input reads as it did. -/
def fnExactGoodFaultUptoRow : OpenClaim := { program := "ytaalmfjpdgdnaaa", sum := "e3c0259d671e0fe86d7a8de6e0a447e915c8b54753d97d4b2066ba1f4fb2fb36", func := "loop.example/g00389/laws.FnExactGoodFault", spec := "fnExactGoodFault", apart := false, narrowed := true }
def FnExactGoodFaultUptoSaid : Prop := fnExactGoodFaultUptoRow.holds Try.pinned (OpenSpec.upto fnExactGoodFaultSpec)

/-- 'laws.FnExactGoodFlagOp', WHERE WHAT IT READS IS OF BULK AT MOST 1048576: true; the input reads as it did. -/
def fnExactGoodFlagOpUptoRow : OpenClaim := { program := "ytaalmfjpdgdnaaa", sum := "e3c0259d671e0fe86d7a8de6e0a447e915c8b54753d97d4b2066ba1f4fb2fb36", func := "loop.example/g00389/laws.FnExactGoodFlagOp", spec := "fnExactGoodFlagOp", apart := false, narrowed := true }
def FnExactGoodFlagOpUptoSaid : Prop := fnExactGoodFlagOpUptoRow.holds Try.pinned (OpenSpec.upto fnExactGoodFlagOpSpec)

/-- 'laws.FnExactMulSigned', WHERE WHAT IT READS IS OF BULK AT MOST 1048576: true; the input reads as it did. -/
def fnExactMulSignedUptoRow : OpenClaim := { program := "ytaalmfjpdgdnaaa", sum := "e3c0259d671e0fe86d7a8de6e0a447e915c8b54753d97d4b2066ba1f4fb2fb36", func := "loop.example/g00389/laws.FnExactMulSigned", spec := "fnExactMulSigned", apart := false, narrowed := true }
def FnExactMulSignedUptoSaid : Prop := fnExactMulSignedUptoRow.holds Try.pinned (OpenSpec.upto fnExactMulSignedSpec)

/-- 'laws.FnExactDivWords', WHERE WHAT IT READS IS OF BULK AT MOST 1048576: true; the input reads as it did. -/
def fnExactDivWordsUptoRow : OpenClaim := { program := "ytaalmfjpdgdnaaa", sum := "e3c0259d671e0fe86d7a8de6e0a447e915c8b54753d97d4b2066ba1f4fb2fb36", func := "loop.example/g00389/laws.FnExactDivWords", spec := "fnExactDivWords", apart := false, narrowed := true }
def FnExactDivWordsUptoSaid : Prop := fnExactDivWordsUptoRow.holds Try.pinned (OpenSpec.upto fnExactDivWordsSpec)

/-- 'laws.FnExactIsLongFrame', WHERE WHAT IT READS IS OF BULK AT MOST 1048576: true; the input reads as it did. -/
def fnExactIsLongFrameUptoRow : OpenClaim := { program := "ytaalmfjpdgdnaaa", sum := "e3c0259d671e0fe86d7a8de6e0a447e915c8b54753d97d4b2066ba1f4fb2fb36", func := "loop.example/g00389/laws.FnExactIsLongFrame", spec := "fnExactIsLongFrame", apart := false, narrowed := true }
def FnExactIsLongFrameUptoSaid : Prop := fnExactIsLongFrameUptoRow.holds Try.pinned (OpenSpec.upto fnExactIsLongFrameSpec)

/-- 'laws.FnExactBoothDigits', WHERE WHAT IT READS IS OF BULK AT MOST 1048576: true; the input reads as it did. -/
def fnExactBoothDigitsUptoRow : OpenClaim := { program := "ytaalmfjpdgdnaaa", sum := "e3c0259d671e0fe86d7a8de6e0a447e915c8b54753d97d4b2066ba1f4fb2fb36", func := "loop.example/g00389/laws.FnExactBoothDigits", spec := "fnExactBoothDigits", apart := false, narrowed := true }
def FnExactBoothDigitsUptoSaid : Prop := fnExactBoothDigitsUptoRow.holds Try.pinned (OpenSpec.upto fnExactBoothDigitsSpec)

/-- 'laws.FnExactGoodLazy', WHERE WHAT IT READS IS OF BULK AT MOST 1048576: true; the input reads as it did. -/
def fnExactGoodLazyUptoRow : OpenClaim := { program := "ytaalmfjpdgdnaaa", sum := "e3c0259d671e0fe86d7a8de6e0a447e915c8b54753d97d4b2066ba1f4fb2fb36", func := "loop.example/g00389/laws.FnExactGoodLazy", spec := "fnExactGoodLazy", apart := false, narrowed := true }
def FnExactGoodLazyUptoSaid : Prop := fnExactGoodLazyUptoRow.holds Try.pinned (OpenSpec.upto fnExactGoodLazySpec)

/-- 'laws.FnExactMulBooth', WHERE WHAT IT READS IS OF BULK AT MOST 1048576: true; the input reads as it did. -/
def fnExactMulBoothUptoRow : OpenClaim := { program := "ytaalmfjpdgdnaaa", sum := "e3c0259d671e0fe86d7a8de6e0a447e915c8b54753d97d4b2066ba1f4fb2fb36", func := "loop.example/g00389/laws.FnExactMulBooth", spec := "fnExactMulBooth", apart := false, narrowed := true }
def FnExactMulBoothUptoSaid : Prop := fnExactMulBoothUptoRow.holds Try.pinned (OpenSpec.upto fnExactMulBoothSpec)

/-- 'laws.FnExactDivSteps', WHERE WHAT IT READS IS OF BULK AT MOST 1048576: true; the input reads as it did. -/
def fnExactDivStepsUptoRow : OpenClaim := { program := "ytaalmfjpdgdnaaa", sum := "e3c0259d671e0fe86d7a8de6e0a447e915c8b54753d97d4b2066ba1f4fb2fb36", func := "loop.example/g00389/laws.FnExactDivSteps", spec := "fnExactDivSteps", apart := false, narrowed := true }
def FnExactDivStepsUptoSaid : Prop := fnExactDivStepsUptoRow.holds Try.pinned (OpenSpec.upto fnExactDivStepsSpec)

/-- 'laws.FnExactNoteFlagOp', WHERE WHAT IT READS IS OF BULK AT MOST 1048576: true; the input reads as it did. -/
def fnExactNoteFlagOpUptoRow : OpenClaim := { program := "ytaalmfjpdgdnaaa", sum := "e3c0259d671e0fe86d7a8de6e0a447e915c8b54753d97d4b2066ba1f4fb2fb36", func := "loop.example/g00389/laws.FnExactNoteFlagOp", spec := "fnExactNoteFlagOp", apart := false, narrowed := true }
def FnExactNoteFlagOpUptoSaid : Prop := fnExactNoteFlagOpUptoRow.holds Try.pinned (OpenSpec.upto fnExactNoteFlagOpSpec)

end Rows
end Go.Proofs.Ytaalmfjpdgdnaaa
