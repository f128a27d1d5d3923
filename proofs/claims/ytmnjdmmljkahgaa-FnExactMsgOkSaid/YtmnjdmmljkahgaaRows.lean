/-
  No cell of these rows narrows 'for every input' (looked for: loops, veiled, ifaces, maps, wideKeys, modest, calm, conditions, laid).
  DERIVED. THE GIVEN ROWS OF THIS SEAT. 8 by the template 'for every input the law returns true; each argument reads behind the call as it read before'; 0 by the template 'total and deterministic' (their statements: YtmnjdmmljkahgaaTotals.lean).
  GIVEN WITH THE SEED: the statements are not yours to turn. If you find one false, say at which input.
  Laid BY PROGRAM, IN A SANDBOX (cutbox-rows.mjs): the forced cells as the released guide's own fill.sh prints them over the translation 0204bfd809ee5a2e… (all of the seat's roots in one cut). By AI agents, Wed Nov 11 2026. No macro, syntax, notation, axiom, sorry.
-/
import Derived.Test.YtmnjdmmljkahgaaChecked
import GoSem.Claim
import GoSem.ClaimJoined
import GoSem.ClaimMapViews
import Derived.JoinedTies
import Derived.KernelRfl
namespace Go.Proofs.Ytmnjdmmljkahgaa
/- THE CELL 'sum', in the pinned program and in every row, IS THE sha256 OF THE DUMP (.gsa) THAT YtmnjdmmljkahgaaProg.lean LOADS. Nothing in Lean hashes anything: it is a label: what it is worth is what the hold of that sum in a sandbox is worth. -/
noncomputable def Try.pinned : Pinned := { name := "ytmnjdmmljkahgaa", sum := "0204bfd809ee5a2e0fe09c57f6519aade8a8da56f40383dafa534c232458da30", checked := Try.checked }
namespace Rows
def none {H : Type} : Left H := { results := [], args := [] }

/-- 'laws.FnExactOpOk': WHATEVER THE INPUT: true; the input reads as it did. -/
def fnExactOpOkSpec : ChangeSpec := { name := "fnExactOpOk", fn := fun _ => fun
  | [d] => { results := [.lit (.bool true)], args := [d] }
  | _ => none }
def fnExactOpOkRow : OpenClaim := { program := "ytmnjdmmljkahgaa", sum := "0204bfd809ee5a2e0fe09c57f6519aade8a8da56f40383dafa534c232458da30", func := "loop.example/g00365/laws.FnExactOpOk", spec := "fnExactOpOk", apart := false }
def FnExactOpOkSaid : Prop := fnExactOpOkRow.holds Try.pinned (OpenSpec.ofChange fnExactOpOkSpec)

/-- ITS FALSE NEIGHBOUR: 'it returns false'. Refute it at one input. -/
def fnExactOpOkWrong : ChangeSpec := { name := "fnExactOpOk", fn := fun _ => fun
  | [d] => { results := [.lit (.bool false)], args := [d] }
  | _ => none }
def FnExactOpOkWrongFalsely : Prop := fnExactOpOkRow.holds Try.pinned (OpenSpec.ofChange fnExactOpOkWrong)

/-- 'laws.FnExactCmdOk': WHATEVER THE INPUT: true; the input reads as it did. -/
def fnExactCmdOkSpec : ChangeSpec := { name := "fnExactCmdOk", fn := fun _ => fun
  | [d] => { results := [.lit (.bool true)], args := [d] }
  | _ => none }
def fnExactCmdOkRow : OpenClaim := { program := "ytmnjdmmljkahgaa", sum := "0204bfd809ee5a2e0fe09c57f6519aade8a8da56f40383dafa534c232458da30", func := "loop.example/g00365/laws.FnExactCmdOk", spec := "fnExactCmdOk", apart := false }
def FnExactCmdOkSaid : Prop := fnExactCmdOkRow.holds Try.pinned (OpenSpec.ofChange fnExactCmdOkSpec)

/-- ITS FALSE NEIGHBOUR: 'it returns false'. Refute it at one input. -/
def fnExactCmdOkWrong : ChangeSpec := { name := "fnExactCmdOk", fn := fun _ => fun
  | [d] => { results := [.lit (.bool false)], args := [d] }
  | _ => none }
def FnExactCmdOkWrongFalsely : Prop := fnExactCmdOkRow.holds Try.pinned (OpenSpec.ofChange fnExactCmdOkWrong)

/-- 'laws.FnExactActionOk': WHATEVER THE INPUT: true; the input reads as it did. -/
def fnExactActionOkSpec : ChangeSpec := { name := "fnExactActionOk", fn := fun _ => fun
  | [d] => { results := [.lit (.bool true)], args := [d] }
  | _ => none }
def fnExactActionOkRow : OpenClaim := { program := "ytmnjdmmljkahgaa", sum := "0204bfd809ee5a2e0fe09c57f6519aade8a8da56f40383dafa534c232458da30", func := "loop.example/g00365/laws.FnExactActionOk", spec := "fnExactActionOk", apart := false }
def FnExactActionOkSaid : Prop := fnExactActionOkRow.holds Try.pinned (OpenSpec.ofChange fnExactActionOkSpec)

/-- ITS FALSE NEIGHBOUR: 'it returns false'. Refute it at one input. -/
def fnExactActionOkWrong : ChangeSpec := { name := "fnExactActionOk", fn := fun _ => fun
  | [d] => { results := [.lit (.bool false)], args := [d] }
  | _ => none }
def FnExactActionOkWrongFalsely : Prop := fnExactActionOkRow.holds Try.pinned (OpenSpec.ofChange fnExactActionOkWrong)

/-- 'laws.FnExactItemOk': WHATEVER THE INPUT: true; the input reads as it did. -/
def fnExactItemOkSpec : ChangeSpec := { name := "fnExactItemOk", fn := fun _ => fun
  | [d] => { results := [.lit (.bool true)], args := [d] }
  | _ => none }
def fnExactItemOkRow : OpenClaim := { program := "ytmnjdmmljkahgaa", sum := "0204bfd809ee5a2e0fe09c57f6519aade8a8da56f40383dafa534c232458da30", func := "loop.example/g00365/laws.FnExactItemOk", spec := "fnExactItemOk", apart := false }
def FnExactItemOkSaid : Prop := fnExactItemOkRow.holds Try.pinned (OpenSpec.ofChange fnExactItemOkSpec)

/-- ITS FALSE NEIGHBOUR: 'it returns false'. Refute it at one input. -/
def fnExactItemOkWrong : ChangeSpec := { name := "fnExactItemOk", fn := fun _ => fun
  | [d] => { results := [.lit (.bool false)], args := [d] }
  | _ => none }
def FnExactItemOkWrongFalsely : Prop := fnExactItemOkRow.holds Try.pinned (OpenSpec.ofChange fnExactItemOkWrong)

/-- 'laws.FnExactWheelOk': WHATEVER THE INPUT: true; the input reads as it did. -/
def fnExactWheelOkSpec : ChangeSpec := { name := "fnExactWheelOk", fn := fun _ => fun
  | [d] => { results := [.lit (.bool true)], args := [d] }
  | _ => none }
def fnExactWheelOkRow : OpenClaim := { program := "ytmnjdmmljkahgaa", sum := "0204bfd809ee5a2e0fe09c57f6519aade8a8da56f40383dafa534c232458da30", func := "loop.example/g00365/laws.FnExactWheelOk", spec := "fnExactWheelOk", unfollowed := true, recurses := true, apart := false }
def FnExactWheelOkSaid : Prop := fnExactWheelOkRow.holds Try.pinned (OpenSpec.ofChange fnExactWheelOkSpec)

/-- ITS FALSE NEIGHBOUR: 'it returns false'. Refute it at one input. -/
def fnExactWheelOkWrong : ChangeSpec := { name := "fnExactWheelOk", fn := fun _ => fun
  | [d] => { results := [.lit (.bool false)], args := [d] }
  | _ => none }
def FnExactWheelOkWrongFalsely : Prop := fnExactWheelOkRow.holds Try.pinned (OpenSpec.ofChange fnExactWheelOkWrong)

/-- 'laws.FnExactWheelNext': WHATEVER THE INPUT: true; the input reads as it did. -/
def fnExactWheelNextSpec : ChangeSpec := { name := "fnExactWheelNext", fn := fun _ => fun
  | [d] => { results := [.lit (.bool true)], args := [d] }
  | _ => none }
def fnExactWheelNextRow : OpenClaim := { program := "ytmnjdmmljkahgaa", sum := "0204bfd809ee5a2e0fe09c57f6519aade8a8da56f40383dafa534c232458da30", func := "loop.example/g00365/laws.FnExactWheelNext", spec := "fnExactWheelNext", unfollowed := true, recurses := true, apart := false }
def FnExactWheelNextSaid : Prop := fnExactWheelNextRow.holds Try.pinned (OpenSpec.ofChange fnExactWheelNextSpec)

/-- ITS FALSE NEIGHBOUR: 'it returns false'. Refute it at one input. -/
def fnExactWheelNextWrong : ChangeSpec := { name := "fnExactWheelNext", fn := fun _ => fun
  | [d] => { results := [.lit (.bool false)], args := [d] }
  | _ => none }
def FnExactWheelNextWrongFalsely : Prop := fnExactWheelNextRow.holds Try.pinned (OpenSpec.ofChange fnExactWheelNextWrong)

/-- 'laws.FnExactWheelLeft': WHATEVER THE INPUT: true; the input reads as it did. -/
def fnExactWheelLeftSpec : ChangeSpec := { name := "fnExactWheelLeft", fn := fun _ => fun
  | [d1, d2] => { results := [.lit (.bool true)], args := [d1, d2] }
  | _ => none }
def fnExactWheelLeftRow : OpenClaim := { program := "ytmnjdmmljkahgaa", sum := "0204bfd809ee5a2e0fe09c57f6519aade8a8da56f40383dafa534c232458da30", func := "loop.example/g00365/laws.FnExactWheelLeft", spec := "fnExactWheelLeft", unfollowed := true, recurses := true, apart := false }
def FnExactWheelLeftSaid : Prop := fnExactWheelLeftRow.holds Try.pinned (OpenSpec.ofChange fnExactWheelLeftSpec)

/-- ITS FALSE NEIGHBOUR: 'it returns false'. Refute it at one input. -/
def fnExactWheelLeftWrong : ChangeSpec := { name := "fnExactWheelLeft", fn := fun _ => fun
  | [d1, d2] => { results := [.lit (.bool false)], args := [d1, d2] }
  | _ => none }
def FnExactWheelLeftWrongFalsely : Prop := fnExactWheelLeftRow.holds Try.pinned (OpenSpec.ofChange fnExactWheelLeftWrong)

/-- 'laws.FnExactMsgOk': WHATEVER THE INPUT: true; the input reads as it did. -/
def fnExactMsgOkSpec : ChangeSpec := { name := "fnExactMsgOk", fn := fun _ => fun
  | [d] => { results := [.lit (.bool true)], args := [d] }
  | _ => none }
def fnExactMsgOkRow : OpenClaim := { program := "ytmnjdmmljkahgaa", sum := "0204bfd809ee5a2e0fe09c57f6519aade8a8da56f40383dafa534c232458da30", func := "loop.example/g00365/laws.FnExactMsgOk", spec := "fnExactMsgOk", apart := false }
def FnExactMsgOkSaid : Prop := fnExactMsgOkRow.holds Try.pinned (OpenSpec.ofChange fnExactMsgOkSpec)

/-- ITS FALSE NEIGHBOUR: 'it returns false'. Refute it at one input. -/
def fnExactMsgOkWrong : ChangeSpec := { name := "fnExactMsgOk", fn := fun _ => fun
  | [d] => { results := [.lit (.bool false)], args := [d] }
  | _ => none }
def FnExactMsgOkWrongFalsely : Prop := fnExactMsgOkRow.holds Try.pinned (OpenSpec.ofChange fnExactMsgOkWrong)

/- THE SECOND FORM. 'bulk': how many values and letters a reading holds, each counted each time it is reached (what is shared counts as often as it is met; a slice's spare places count too). A statement '..UptoSaid' is the law's where the arguments, and the package variables that the reading takes, are together of bulk at most 1048576: NARROWER than '..Said'. Prove '..Said' where nothing that the law and all that it calls make is longer than what came in: it says more and counts as full. Else prove '..UptoSaid'. A law counts once. -/
mutual
def uptoBulk {H : Type} : DataW H → Nat
  | .lit (.string bytes) => bytes.length + 1
  | .lit _ => 1
  | .nil => 1
  | .ptr d => uptoBulk d + 1
  | .slice elems spare => uptoBulkAll elems + uptoBulkAll spare + 1
  | .agg parts => uptoBulkAll parts + 1
  | .iface _ d => uptoBulk d + 1
  | .map entries => uptoBulkEntries entries + 1
  | .held _ => 1
def uptoBulkAll {H : Type} : List (DataW H) → Nat
  | [] => 0
  | d :: r => uptoBulk d + uptoBulkAll r
def uptoBulkEntries {H : Type} : List (Lit × DataW H) → Nat
  | [] => 0
  | x :: r => uptoBulkEntry x + uptoBulkEntries r
def uptoBulkEntry {H : Type} : Lit × DataW H → Nat
  | (.string bytes, d) => bytes.length + uptoBulk d + 1
  | (_, d) => uptoBulk d + 1
 end
def uptoSmall : (H : Type) → List (DataW H) → Bool := fun _ ds => decide (uptoBulkAll ds ≤ 1048576)
def OpenSpec.upto (s : _root_.Go.ChangeSpec) : _root_.Go.OpenSpec := { _root_.Go.OpenSpec.ofChange s with cond := some uptoSmall }

/-- 'laws.FnExactOpOk', WHERE WHAT IT READS IS OF BULK AT MOST 1048576: true; the input reads as it did. -/
def fnExactOpOkUptoRow : OpenClaim := { program := "ytmnjdmmljkahgaa", sum := "0204bfd809ee5a2e0fe09c57f6519aade8a8da56f40383dafa534c232458da30", func := "loop.example/g00365/laws.FnExactOpOk", spec := "fnExactOpOk", apart := false, narrowed := true }
def FnExactOpOkUptoSaid : Prop := fnExactOpOkUptoRow.holds Try.pinned (OpenSpec.upto fnExactOpOkSpec)

/-- 'laws.FnExactCmdOk', WHERE WHAT IT READS IS OF BULK AT MOST 1048576: true; the input reads as it did. -/
def fnExactCmdOkUptoRow : OpenClaim := { program := "ytmnjdmmljkahgaa", sum := "0204bfd809ee5a2e0fe09c57f6519aade8a8da56f40383dafa534c232458da30", func := "loop.example/g00365/laws.FnExactCmdOk", spec := "fnExactCmdOk", apart := false, narrowed := true }
def FnExactCmdOkUptoSaid : Prop := fnExactCmdOkUptoRow.holds Try.pinned (OpenSpec.upto fnExactCmdOkSpec)

/-- 'laws.FnExactActionOk', WHERE WHAT IT READS IS OF BULK AT MOST 1048576: true; the input reads as it did. -/
def fnExactActionOkUptoRow : OpenClaim := { program := "ytmnjdmmljkahgaa", sum := "0204bfd809ee5a2e0fe09c57f6519aade8a8da56f40383dafa534c232458da30", func := "loop.example/g00365/laws.FnExactActionOk", spec := "fnExactActionOk", apart := false, narrowed := true }
def FnExactActionOkUptoSaid : Prop := fnExactActionOkUptoRow.holds Try.pinned (OpenSpec.upto fnExactActionOkSpec)

/-- 'laws.FnExactItemOk', WHERE WHAT IT READS IS OF BULK AT MOST 1048576: true; the input reads as it did. -/
def fnExactItemOkUptoRow : OpenClaim := { program := "ytmnjdmmljkahgaa", sum := "0204bfd809ee5a2e0fe09c57f6519aade8a8da56f40383dafa534c232458da30", func := "loop.example/g00365/laws.FnExactItemOk", spec := "fnExactItemOk", apart := false, narrowed := true }
def FnExactItemOkUptoSaid : Prop := fnExactItemOkUptoRow.holds Try.pinned (OpenSpec.upto fnExactItemOkSpec)

/-- 'laws.FnExactWheelOk', WHERE WHAT IT READS IS OF BULK AT MOST 1048576: true; the input reads as it did. -/
def fnExactWheelOkUptoRow : OpenClaim := { program := "ytmnjdmmljkahgaa", sum := "0204bfd809ee5a2e0fe09c57f6519aade8a8da56f40383dafa534c232458da30", func := "loop.example/g00365/laws.FnExactWheelOk", spec := "fnExactWheelOk", unfollowed := true, recurses := true, apart := false, narrowed := true }
def FnExactWheelOkUptoSaid : Prop := fnExactWheelOkUptoRow.holds Try.pinned (OpenSpec.upto fnExactWheelOkSpec)

/-- 'laws.FnExactWheelNext', WHERE WHAT IT READS IS OF BULK AT MOST 1048576: true; the input reads as it did. -/
def fnExactWheelNextUptoRow : OpenClaim := { program := "ytmnjdmmljkahgaa", sum := "0204bfd809ee5a2e0fe09c57f6519aade8a8da56f40383dafa534c232458da30", func := "loop.example/g00365/laws.FnExactWheelNext", spec := "fnExactWheelNext", unfollowed := true, recurses := true, apart := false, narrowed := true }
def FnExactWheelNextUptoSaid : Prop := fnExactWheelNextUptoRow.holds Try.pinned (OpenSpec.upto fnExactWheelNextSpec)

/-- 'laws.FnExactWheelLeft', WHERE WHAT IT READS IS OF BULK AT MOST 1048576: true; the input reads as it did. -/
def fnExactWheelLeftUptoRow : OpenClaim := { program := "ytmnjdmmljkahgaa", sum := "0204bfd809ee5a2e0fe09c57f6519aade8a8da56f40383dafa534c232458da30", func := "loop.example/g00365/laws.FnExactWheelLeft", spec := "fnExactWheelLeft", unfollowed := true, recurses := true, apart := false, narrowed := true }
def FnExactWheelLeftUptoSaid : Prop := fnExactWheelLeftUptoRow.holds Try.pinned (OpenSpec.upto fnExactWheelLeftSpec)

/-- 'laws.FnExactMsgOk', WHERE WHAT IT READS IS OF BULK AT MOST 1048576: true; the input reads as it did. -/
def fnExactMsgOkUptoRow : OpenClaim := { program := "ytmnjdmmljkahgaa", sum := "0204bfd809ee5a2e0fe09c57f6519aade8a8da56f40383dafa534c232458da30", func := "loop.example/g00365/laws.FnExactMsgOk", spec := "fnExactMsgOk", apart := false, narrowed := true }
def FnExactMsgOkUptoSaid : Prop := fnExactMsgOkUptoRow.holds Try.pinned (OpenSpec.upto fnExactMsgOkSpec)

end Rows
end Go.Proofs.Ytmnjdmmljkahgaa
