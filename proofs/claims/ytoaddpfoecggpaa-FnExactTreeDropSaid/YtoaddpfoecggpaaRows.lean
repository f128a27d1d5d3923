/-
  NARROWER THAN 'FOR EVERY INPUT', by the rows' own cells (each row's printed sentence says how): FnExactTreeOk: loops · FnExactTreeSize: loops · FnExactTreeGet: loops · FnExactTreeNext: loops · FnExactTreeLongest: loops · FnExactTreeKeys: loops · FnExactTreeDrop: loops · FnExactTreeDel: loops.
  DERIVED. THE GIVEN ROWS OF THIS SEAT. 12 by the template 'for every input the law returns true; each argument reads behind the call as it read before'; 0 by the template 'total and deterministic' (their statements: YtoaddpfoecggpaaTotals.lean).
  GIVEN WITH THE SEED: the statements are not yours to turn. If you find one false, say at which input.
  Laid BY PROGRAM, IN A SANDBOX (cutbox-rows.mjs): the forced cells as the released guide's own fill.sh prints them over the translation 1a4f59710da12af5… (all of the seat's roots in one cut). By AI agents, Wed Nov 11 2026. No macro, syntax, notation, axiom, sorry.
-/
import Derived.Test.YtoaddpfoecggpaaChecked
import GoSem.Claim
import GoSem.ClaimJoined
import GoSem.ClaimMapViews
import Derived.JoinedTies
import Derived.KernelRfl
namespace Go.Proofs.Ytoaddpfoecggpaa
/- THE CELL 'sum', in the pinned program and in every row, IS THE sha256 OF THE DUMP (.gsa) THAT YtoaddpfoecggpaaProg.lean LOADS. Nothing in Lean hashes anything: it is a label: what it is worth is what the hold of that sum in a sandbox is worth. -/
noncomputable def Try.pinned : Pinned := { name := "ytoaddpfoecggpaa", sum := "1a4f59710da12af5f0147b375a1953690d5e27c35bea54360d0919750470892d", checked := Try.checked }
namespace Rows
def none {H : Type} : Left H := { results := [], args := [] }

/-- 'laws.FnExactTreeOk': WHATEVER THE INPUT: true; the input reads as it did. -/
def fnExactTreeOkSpec : ChangeSpec := { name := "fnExactTreeOk", fn := fun _ => fun
  | [d] => { results := [.lit (.bool true)], args := [d] }
  | _ => none }
def fnExactTreeOkRow : OpenClaim := { program := "ytoaddpfoecggpaa", sum := "1a4f59710da12af5f0147b375a1953690d5e27c35bea54360d0919750470892d", func := "loop.example/g00365/laws.FnExactTreeOk", spec := "fnExactTreeOk", recurses := true, loops := true, apart := false }
def FnExactTreeOkSaid : Prop := fnExactTreeOkRow.holds Try.pinned (OpenSpec.ofChange fnExactTreeOkSpec)

/-- ITS FALSE NEIGHBOUR: 'it returns false'. Refute it at one input. -/
def fnExactTreeOkWrong : ChangeSpec := { name := "fnExactTreeOk", fn := fun _ => fun
  | [d] => { results := [.lit (.bool false)], args := [d] }
  | _ => none }
def FnExactTreeOkWrongFalsely : Prop := fnExactTreeOkRow.holds Try.pinned (OpenSpec.ofChange fnExactTreeOkWrong)

/-- 'laws.FnExactTreeSize': WHATEVER THE INPUT: true; the input reads as it did. -/
def fnExactTreeSizeSpec : ChangeSpec := { name := "fnExactTreeSize", fn := fun _ => fun
  | [d] => { results := [.lit (.bool true)], args := [d] }
  | _ => none }
def fnExactTreeSizeRow : OpenClaim := { program := "ytoaddpfoecggpaa", sum := "1a4f59710da12af5f0147b375a1953690d5e27c35bea54360d0919750470892d", func := "loop.example/g00365/laws.FnExactTreeSize", spec := "fnExactTreeSize", recurses := true, loops := true, apart := false }
def FnExactTreeSizeSaid : Prop := fnExactTreeSizeRow.holds Try.pinned (OpenSpec.ofChange fnExactTreeSizeSpec)

/-- ITS FALSE NEIGHBOUR: 'it returns false'. Refute it at one input. -/
def fnExactTreeSizeWrong : ChangeSpec := { name := "fnExactTreeSize", fn := fun _ => fun
  | [d] => { results := [.lit (.bool false)], args := [d] }
  | _ => none }
def FnExactTreeSizeWrongFalsely : Prop := fnExactTreeSizeRow.holds Try.pinned (OpenSpec.ofChange fnExactTreeSizeWrong)

/-- 'laws.FnExactTreeGet': WHATEVER THE INPUT: true; the input reads as it did. -/
def fnExactTreeGetSpec : ChangeSpec := { name := "fnExactTreeGet", fn := fun _ => fun
  | [d1, d2] => { results := [.lit (.bool true)], args := [d1, d2] }
  | _ => none }
def fnExactTreeGetRow : OpenClaim := { program := "ytoaddpfoecggpaa", sum := "1a4f59710da12af5f0147b375a1953690d5e27c35bea54360d0919750470892d", func := "loop.example/g00365/laws.FnExactTreeGet", spec := "fnExactTreeGet", inPlace := ["internal/bytealg.Compare"], unfollowed := true, recurses := true, loops := true, apart := false }
def FnExactTreeGetSaid : Prop := fnExactTreeGetRow.holds Try.pinned (OpenSpec.ofChange fnExactTreeGetSpec)

/-- ITS FALSE NEIGHBOUR: 'it returns false'. Refute it at one input. -/
def fnExactTreeGetWrong : ChangeSpec := { name := "fnExactTreeGet", fn := fun _ => fun
  | [d1, d2] => { results := [.lit (.bool false)], args := [d1, d2] }
  | _ => none }
def FnExactTreeGetWrongFalsely : Prop := fnExactTreeGetRow.holds Try.pinned (OpenSpec.ofChange fnExactTreeGetWrong)

/-- 'laws.FnTreeKeys': WHATEVER THE INPUT: true; the input reads as it did. -/
def fnTreeKeysSpec : ChangeSpec := { name := "fnTreeKeys", fn := fun _ => fun
  | [d] => { results := [.lit (.bool true)], args := [d] }
  | _ => none }
def fnTreeKeysRow : OpenClaim := { program := "ytoaddpfoecggpaa", sum := "1a4f59710da12af5f0147b375a1953690d5e27c35bea54360d0919750470892d", func := "loop.example/g00365/laws.FnTreeKeys", spec := "fnTreeKeys", inPlace := ["internal/bytealg.Compare"], recurses := true, apart := false }
def FnTreeKeysSaid : Prop := fnTreeKeysRow.holds Try.pinned (OpenSpec.ofChange fnTreeKeysSpec)

/-- ITS FALSE NEIGHBOUR: 'it returns false'. Refute it at one input. -/
def fnTreeKeysWrong : ChangeSpec := { name := "fnTreeKeys", fn := fun _ => fun
  | [d] => { results := [.lit (.bool false)], args := [d] }
  | _ => none }
def FnTreeKeysWrongFalsely : Prop := fnTreeKeysRow.holds Try.pinned (OpenSpec.ofChange fnTreeKeysWrong)

/-- 'laws.FnExactTreeNext': WHATEVER THE INPUT: true; the input reads as it did. -/
def fnExactTreeNextSpec : ChangeSpec := { name := "fnExactTreeNext", fn := fun _ => fun
  | [d1, d2] => { results := [.lit (.bool true)], args := [d1, d2] }
  | _ => none }
def fnExactTreeNextRow : OpenClaim := { program := "ytoaddpfoecggpaa", sum := "1a4f59710da12af5f0147b375a1953690d5e27c35bea54360d0919750470892d", func := "loop.example/g00365/laws.FnExactTreeNext", spec := "fnExactTreeNext", inPlace := ["internal/bytealg.Compare"], recurses := true, loops := true, apart := false }
def FnExactTreeNextSaid : Prop := fnExactTreeNextRow.holds Try.pinned (OpenSpec.ofChange fnExactTreeNextSpec)

/-- ITS FALSE NEIGHBOUR: 'it returns false'. Refute it at one input. -/
def fnExactTreeNextWrong : ChangeSpec := { name := "fnExactTreeNext", fn := fun _ => fun
  | [d1, d2] => { results := [.lit (.bool false)], args := [d1, d2] }
  | _ => none }
def FnExactTreeNextWrongFalsely : Prop := fnExactTreeNextRow.holds Try.pinned (OpenSpec.ofChange fnExactTreeNextWrong)

/-- 'laws.FnExactTreeLongest': WHATEVER THE INPUT: true; the input reads as it did. -/
def fnExactTreeLongestSpec : ChangeSpec := { name := "fnExactTreeLongest", fn := fun _ => fun
  | [d1, d2] => { results := [.lit (.bool true)], args := [d1, d2] }
  | _ => none }
def fnExactTreeLongestRow : OpenClaim := { program := "ytoaddpfoecggpaa", sum := "1a4f59710da12af5f0147b375a1953690d5e27c35bea54360d0919750470892d", func := "loop.example/g00365/laws.FnExactTreeLongest", spec := "fnExactTreeLongest", recurses := true, loops := true, apart := false }
def FnExactTreeLongestSaid : Prop := fnExactTreeLongestRow.holds Try.pinned (OpenSpec.ofChange fnExactTreeLongestSpec)

/-- ITS FALSE NEIGHBOUR: 'it returns false'. Refute it at one input. -/
def fnExactTreeLongestWrong : ChangeSpec := { name := "fnExactTreeLongest", fn := fun _ => fun
  | [d1, d2] => { results := [.lit (.bool false)], args := [d1, d2] }
  | _ => none }
def FnExactTreeLongestWrongFalsely : Prop := fnExactTreeLongestRow.holds Try.pinned (OpenSpec.ofChange fnExactTreeLongestWrong)

/-- 'laws.FnExactTreeKeys': WHATEVER THE INPUT: true; the input reads as it did. -/
def fnExactTreeKeysSpec : ChangeSpec := { name := "fnExactTreeKeys", fn := fun _ => fun
  | [d1, d2] => { results := [.lit (.bool true)], args := [d1, d2] }
  | _ => none }
def fnExactTreeKeysRow : OpenClaim := { program := "ytoaddpfoecggpaa", sum := "1a4f59710da12af5f0147b375a1953690d5e27c35bea54360d0919750470892d", func := "loop.example/g00365/laws.FnExactTreeKeys", spec := "fnExactTreeKeys", recurses := true, loops := true, apart := false }
def FnExactTreeKeysSaid : Prop := fnExactTreeKeysRow.holds Try.pinned (OpenSpec.ofChange fnExactTreeKeysSpec)

/-- ITS FALSE NEIGHBOUR: 'it returns false'. Refute it at one input. -/
def fnExactTreeKeysWrong : ChangeSpec := { name := "fnExactTreeKeys", fn := fun _ => fun
  | [d1, d2] => { results := [.lit (.bool false)], args := [d1, d2] }
  | _ => none }
def FnExactTreeKeysWrongFalsely : Prop := fnExactTreeKeysRow.holds Try.pinned (OpenSpec.ofChange fnExactTreeKeysWrong)

/-- 'laws.FnExactTreeDrop': WHATEVER THE INPUT: true; the input reads as it did. -/
def fnExactTreeDropSpec : ChangeSpec := { name := "fnExactTreeDrop", fn := fun _ => fun
  | [d1, d2] => { results := [.lit (.bool true)], args := [d1, d2] }
  | _ => none }
def fnExactTreeDropRow : OpenClaim := { program := "ytoaddpfoecggpaa", sum := "1a4f59710da12af5f0147b375a1953690d5e27c35bea54360d0919750470892d", func := "loop.example/g00365/laws.FnExactTreeDrop", spec := "fnExactTreeDrop", unfollowed := true, recurses := true, loops := true, apart := false }
def FnExactTreeDropSaid : Prop := fnExactTreeDropRow.holds Try.pinned (OpenSpec.ofChange fnExactTreeDropSpec)

/-- ITS FALSE NEIGHBOUR: 'it returns false'. Refute it at one input. -/
def fnExactTreeDropWrong : ChangeSpec := { name := "fnExactTreeDrop", fn := fun _ => fun
  | [d1, d2] => { results := [.lit (.bool false)], args := [d1, d2] }
  | _ => none }
def FnExactTreeDropWrongFalsely : Prop := fnExactTreeDropRow.holds Try.pinned (OpenSpec.ofChange fnExactTreeDropWrong)

/-- 'laws.FnExactTreeDel': WHATEVER THE INPUT: true; the input reads as it did. -/
def fnExactTreeDelSpec : ChangeSpec := { name := "fnExactTreeDel", fn := fun _ => fun
  | [d1, d2] => { results := [.lit (.bool true)], args := [d1, d2] }
  | _ => none }
def fnExactTreeDelRow : OpenClaim := { program := "ytoaddpfoecggpaa", sum := "1a4f59710da12af5f0147b375a1953690d5e27c35bea54360d0919750470892d", func := "loop.example/g00365/laws.FnExactTreeDel", spec := "fnExactTreeDel", inPlace := ["internal/bytealg.Compare"], unfollowed := true, recurses := true, loops := true, apart := false }
def FnExactTreeDelSaid : Prop := fnExactTreeDelRow.holds Try.pinned (OpenSpec.ofChange fnExactTreeDelSpec)

/-- ITS FALSE NEIGHBOUR: 'it returns false'. Refute it at one input. -/
def fnExactTreeDelWrong : ChangeSpec := { name := "fnExactTreeDel", fn := fun _ => fun
  | [d1, d2] => { results := [.lit (.bool false)], args := [d1, d2] }
  | _ => none }
def FnExactTreeDelWrongFalsely : Prop := fnExactTreeDelRow.holds Try.pinned (OpenSpec.ofChange fnExactTreeDelWrong)

/-- 'laws.FnExactNodeNew': WHATEVER THE INPUT: true; the input reads as it did. -/
def fnExactNodeNewSpec : ChangeSpec := { name := "fnExactNodeNew", fn := fun _ => fun
  | [d1, d2] => { results := [.lit (.bool true)], args := [d1, d2] }
  | _ => none }
def fnExactNodeNewRow : OpenClaim := { program := "ytoaddpfoecggpaa", sum := "1a4f59710da12af5f0147b375a1953690d5e27c35bea54360d0919750470892d", func := "loop.example/g00365/laws.FnExactNodeNew", spec := "fnExactNodeNew", apart := false }
def FnExactNodeNewSaid : Prop := fnExactNodeNewRow.holds Try.pinned (OpenSpec.ofChange fnExactNodeNewSpec)

/-- ITS FALSE NEIGHBOUR: 'it returns false'. Refute it at one input. -/
def fnExactNodeNewWrong : ChangeSpec := { name := "fnExactNodeNew", fn := fun _ => fun
  | [d1, d2] => { results := [.lit (.bool false)], args := [d1, d2] }
  | _ => none }
def FnExactNodeNewWrongFalsely : Prop := fnExactNodeNewRow.holds Try.pinned (OpenSpec.ofChange fnExactNodeNewWrong)

/-- 'laws.FnExactNodeOk': WHATEVER THE INPUT: true; the input reads as it did. -/
def fnExactNodeOkSpec : ChangeSpec := { name := "fnExactNodeOk", fn := fun _ => fun
  | [d1, d2] => { results := [.lit (.bool true)], args := [d1, d2] }
  | _ => none }
def fnExactNodeOkRow : OpenClaim := { program := "ytoaddpfoecggpaa", sum := "1a4f59710da12af5f0147b375a1953690d5e27c35bea54360d0919750470892d", func := "loop.example/g00365/laws.FnExactNodeOk", spec := "fnExactNodeOk", apart := false }
def FnExactNodeOkSaid : Prop := fnExactNodeOkRow.holds Try.pinned (OpenSpec.ofChange fnExactNodeOkSpec)

/-- ITS FALSE NEIGHBOUR: 'it returns false'. Refute it at one input. -/
def fnExactNodeOkWrong : ChangeSpec := { name := "fnExactNodeOk", fn := fun _ => fun
  | [d1, d2] => { results := [.lit (.bool false)], args := [d1, d2] }
  | _ => none }
def FnExactNodeOkWrongFalsely : Prop := fnExactNodeOkRow.holds Try.pinned (OpenSpec.ofChange fnExactNodeOkWrong)

/-- 'laws.FnExactTermAt': WHATEVER THE INPUT: true; the input reads as it did. -/
def fnExactTermAtSpec : ChangeSpec := { name := "fnExactTermAt", fn := fun _ => fun
  | [d1, d2, d3] => { results := [.lit (.bool true)], args := [d1, d2, d3] }
  | _ => none }
def fnExactTermAtRow : OpenClaim := { program := "ytoaddpfoecggpaa", sum := "1a4f59710da12af5f0147b375a1953690d5e27c35bea54360d0919750470892d", func := "loop.example/g00365/laws.FnExactTermAt", spec := "fnExactTermAt", apart := false }
def FnExactTermAtSaid : Prop := fnExactTermAtRow.holds Try.pinned (OpenSpec.ofChange fnExactTermAtSpec)

/-- ITS FALSE NEIGHBOUR: 'it returns false'. Refute it at one input. -/
def fnExactTermAtWrong : ChangeSpec := { name := "fnExactTermAt", fn := fun _ => fun
  | [d1, d2, d3] => { results := [.lit (.bool false)], args := [d1, d2, d3] }
  | _ => none }
def FnExactTermAtWrongFalsely : Prop := fnExactTermAtRow.holds Try.pinned (OpenSpec.ofChange fnExactTermAtWrong)

/- THE SECOND FORM. 'bulk': how many values and letters a reading holds, each counted each time it is reached (what is shared counts as often as it is met; a slice's spare places count too). A statement '..UptoSaid' is the law's where the arguments, and the package variables that the reading takes, are together of bulk at most 1048576: NARROWER than '..Said'. Prove '..Said' where nothing that the law and all that it calls make is longer than what came in: it says more and counts as full. Else prove '..UptoSaid'. A law counts once. -/
mutual
def uptoBulk {H : Type} : DataW H → Nat
  | .lit (.string bytes) => bytes.length + 1
  | .lit _ => 1
  | .nil => 1
  | .ptr d => uptoBulk d + 1
  | .slice elems spare => uptoBulkAll elems + uptoBulkAll spare + 1
  | .agg parts => uptoBulkAll parts + 1
  | .iface _ d => uptoBulk d + 1
  | .map entries => uptoBulkEntries entries + 1
  | .held _ => 1
def uptoBulkAll {H : Type} : List (DataW H) → Nat
  | [] => 0
  | d :: r => uptoBulk d + uptoBulkAll r
def uptoBulkEntries {H : Type} : List (Lit × DataW H) → Nat
  | [] => 0
  | x :: r => uptoBulkEntry x + uptoBulkEntries r
def uptoBulkEntry {H : Type} : Lit × DataW H → Nat
  | (.string bytes, d) => bytes.length + uptoBulk d + 1
  | (_, d) => uptoBulk d + 1
 end
def uptoSmall : (H : Type) → List (DataW H) → Bool := fun _ ds => decide (uptoBulkAll ds ≤ 1048576)
def OpenSpec.upto (s : _root_.Go.ChangeSpec) : _root_.Go.OpenSpec := { _root_.Go.OpenSpec.ofChange s with cond := some uptoSmall }

/-- 'laws.FnExactTreeOk', WHERE WHAT IT READS IS OF BULK AT MOST 1048576: true; the input reads as it did. -/
def fnExactTreeOkUptoRow : OpenClaim := { program := "ytoaddpfoecggpaa", sum := "1a4f59710da12af5f0147b375a1953690d5e27c35bea54360d0919750470892d", func := "loop.example/g00365/laws.FnExactTreeOk", spec := "fnExactTreeOk", recurses := true, loops := true, apart := false, narrowed := true }
def FnExactTreeOkUptoSaid : Prop := fnExactTreeOkUptoRow.holds Try.pinned (OpenSpec.upto fnExactTreeOkSpec)

/-- 'laws.FnExactTreeSize', WHERE WHAT IT READS IS OF BULK AT MOST 1048576: true; the input reads as it did. -/
def fnExactTreeSizeUptoRow : OpenClaim := { program := "ytoaddpfoecggpaa", sum := "1a4f59710da12af5f0147b375a1953690d5e27c35bea54360d0919750470892d", func := "loop.example/g00365/laws.FnExactTreeSize", spec := "fnExactTreeSize", recurses := true, loops := true, apart := false, narrowed := true }
def FnExactTreeSizeUptoSaid : Prop := fnExactTreeSizeUptoRow.holds Try.pinned (OpenSpec.upto fnExactTreeSizeSpec)

/-- 'laws.FnExactTreeGet', WHERE WHAT IT READS IS OF BULK AT MOST 1048576: true; the input reads as it did. -/
def fnExactTreeGetUptoRow : OpenClaim := { program := "ytoaddpfoecggpaa", sum := "1a4f59710da12af5f0147b375a1953690d5e27c35bea54360d0919750470892d", func := "loop.example/g00365/laws.FnExactTreeGet", spec := "fnExactTreeGet", inPlace := ["internal/bytealg.Compare"], unfollowed := true, recurses := true, loops := true, apart := false, narrowed := true }
def FnExactTreeGetUptoSaid : Prop := fnExactTreeGetUptoRow.holds Try.pinned (OpenSpec.upto fnExactTreeGetSpec)

/-- 'laws.FnTreeKeys', WHERE WHAT IT READS IS OF BULK AT MOST 1048576: true; the input reads as it did. -/
def fnTreeKeysUptoRow : OpenClaim := { program := "ytoaddpfoecggpaa", sum := "1a4f59710da12af5f0147b375a1953690d5e27c35bea54360d0919750470892d", func := "loop.example/g00365/laws.FnTreeKeys", spec := "fnTreeKeys", inPlace := ["internal/bytealg.Compare"], recurses := true, apart := false, narrowed := true }
def FnTreeKeysUptoSaid : Prop := fnTreeKeysUptoRow.holds Try.pinned (OpenSpec.upto fnTreeKeysSpec)

/-- 'laws.FnExactTreeNext', WHERE WHAT IT READS IS OF BULK AT MOST 1048576: true; the input reads as it did. -/
def fnExactTreeNextUptoRow : OpenClaim := { program := "ytoaddpfoecggpaa", sum := "1a4f59710da12af5f0147b375a1953690d5e27c35bea54360d0919750470892d", func := "loop.example/g00365/laws.FnExactTreeNext", spec := "fnExactTreeNext", inPlace := ["internal/bytealg.Compare"], recurses := true, loops := true, apart := false, narrowed := true }
def FnExactTreeNextUptoSaid : Prop := fnExactTreeNextUptoRow.holds Try.pinned (OpenSpec.upto fnExactTreeNextSpec)

/-- 'laws.FnExactTreeLongest', WHERE WHAT IT READS IS OF BULK AT MOST 1048576: true; the input reads as it did. -/
def fnExactTreeLongestUptoRow : OpenClaim := { program := "ytoaddpfoecggpaa", sum := "1a4f59710da12af5f0147b375a1953690d5e27c35bea54360d0919750470892d", func := "loop.example/g00365/laws.FnExactTreeLongest", spec := "fnExactTreeLongest", recurses := true, loops := true, apart := false, narrowed := true }
def FnExactTreeLongestUptoSaid : Prop := fnExactTreeLongestUptoRow.holds Try.pinned (OpenSpec.upto fnExactTreeLongestSpec)

/-- 'laws.FnExactTreeKeys', WHERE WHAT IT READS IS OF BULK AT MOST 1048576: true; the input reads as it did. -/
def fnExactTreeKeysUptoRow : OpenClaim := { program := "ytoaddpfoecggpaa", sum := "1a4f59710da12af5f0147b375a1953690d5e27c35bea54360d0919750470892d", func := "loop.example/g00365/laws.FnExactTreeKeys", spec := "fnExactTreeKeys", recurses := true, loops := true, apart := false, narrowed := true }
def FnExactTreeKeysUptoSaid : Prop := fnExactTreeKeysUptoRow.holds Try.pinned (OpenSpec.upto fnExactTreeKeysSpec)

/-- 'laws.FnExactTreeDrop', WHERE WHAT IT READS IS OF BULK AT MOST 1048576: true; the input reads as it did. -/
def fnExactTreeDropUptoRow : OpenClaim := { program := "ytoaddpfoecggpaa", sum := "1a4f59710da12af5f0147b375a1953690d5e27c35bea54360d0919750470892d", func := "loop.example/g00365/laws.FnExactTreeDrop", spec := "fnExactTreeDrop", unfollowed := true, recurses := true, loops := true, apart := false, narrowed := true }
def FnExactTreeDropUptoSaid : Prop := fnExactTreeDropUptoRow.holds Try.pinned (OpenSpec.upto fnExactTreeDropSpec)

/-- 'laws.FnExactTreeDel', WHERE WHAT IT READS IS OF BULK AT MOST 1048576: true; the input reads as it did. -/
def fnExactTreeDelUptoRow : OpenClaim := { program := "ytoaddpfoecggpaa", sum := "1a4f59710da12af5f0147b375a1953690d5e27c35bea54360d0919750470892d", func := "loop.example/g00365/laws.FnExactTreeDel", spec := "fnExactTreeDel", inPlace := ["internal/bytealg.Compare"], unfollowed := true, recurses := true, loops := true, apart := false, narrowed := true }
def FnExactTreeDelUptoSaid : Prop := fnExactTreeDelUptoRow.holds Try.pinned (OpenSpec.upto fnExactTreeDelSpec)

/-- 'laws.FnExactNodeNew', WHERE WHAT IT READS IS OF BULK AT MOST 1048576: true; the input reads as it did. -/
def fnExactNodeNewUptoRow : OpenClaim := { program := "ytoaddpfoecggpaa", sum := "1a4f59710da12af5f0147b375a1953690d5e27c35bea54360d0919750470892d", func := "loop.example/g00365/laws.FnExactNodeNew", spec := "fnExactNodeNew", apart := false, narrowed := true }
def FnExactNodeNewUptoSaid : Prop := fnExactNodeNewUptoRow.holds Try.pinned (OpenSpec.upto fnExactNodeNewSpec)

/-- 'laws.FnExactNodeOk', WHERE WHAT IT READS IS OF BULK AT MOST 1048576: true; the input reads as it did. -/
def fnExactNodeOkUptoRow : OpenClaim := { program := "ytoaddpfoecggpaa", sum := "1a4f59710da12af5f0147b375a1953690d5e27c35bea54360d0919750470892d", func := "loop.example/g00365/laws.FnExactNodeOk", spec := "fnExactNodeOk", apart := false, narrowed := true }
def FnExactNodeOkUptoSaid : Prop := fnExactNodeOkUptoRow.holds Try.pinned (OpenSpec.upto fnExactNodeOkSpec)

/-- 'laws.FnExactTermAt', WHERE WHAT IT READS IS OF BULK AT MOST 1048576: true; the input reads as it did. -/
def fnExactTermAtUptoRow : OpenClaim := { program := "ytoaddpfoecggpaa", sum := "1a4f59710da12af5f0147b375a1953690d5e27c35bea54360d0919750470892d", func := "loop.example/g00365/laws.FnExactTermAt", spec := "fnExactTermAt", apart := false, narrowed := true }
def FnExactTermAtUptoSaid : Prop := fnExactTermAtUptoRow.holds Try.pinned (OpenSpec.upto fnExactTermAtSpec)

end Rows
end Go.Proofs.Ytoaddpfoecggpaa
