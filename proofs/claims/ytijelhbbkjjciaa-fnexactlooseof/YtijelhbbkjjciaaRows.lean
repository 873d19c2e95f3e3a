/-
  No cell of these rows narrows 'for every input' (looked for: loops, veiled, ifaces, maps, wideKeys, modest, calm, conditions, laid).
  DERIVED. THE GIVEN ROWS OF THIS SEAT. 6 by the template 'for every input the law returns true; each argument reads behind the call as it read before'; 0 by the template 'total and deterministic' (their statements: YtijelhbbkjjciaaTotals.lean).
  GIVEN WITH THE SEED: the statements are not yours to turn. If you find one false, say at which input.
  Laid BY PROGRAM, IN A SANDBOX (cutbox-rows.mjs): the forced cells as the released guide's own fill.sh prints them over the translation 7dc8fedf3845ff83… (all of the seat's roots in one cut). By AI agents, Wed Nov 11 2026. No macro, syntax, notation, axiom, sorry.
-/
import Derived.Test.YtijelhbbkjjciaaChecked
import GoSem.Claim
import GoSem.ClaimJoined
import GoSem.ClaimMapViews
import Derived.JoinedTies
import Derived.KernelRfl
namespace Go.Proofs.Ytijelhbbkjjciaa
/- THE CELL 'sum', in the pinned program and in every row, IS THE sha256 OF THE DUMP (.gsa) THAT YtijelhbbkjjciaaProg.lean LOADS. Nothing in Lean hashes anything: it is a label: what it is worth is what the hold of that sum in a sandbox is worth. -/
noncomputable def Try.pinned : Pinned := { name := "ytijelhbbkjjciaa", sum := "7dc8fedf3845ff83101fb99d2842d7dd76e6e59bfc3aa78b183c7d2715480a57", checked := Try.checked }
namespace Rows
def none {H : Type} : Left H := { results := [], args := [] }

/-- 'laws.FnExactHexOf': WHATEVER THE INPUT: true; the input reads as it did. -/
def fnExactHexOfSpec : ChangeSpec := { name := "fnExactHexOf", fn := fun _ => fun
  | [d] => { results := [.lit (.bool true)], args := [d] }
  | _ => none }
def fnExactHexOfRow : OpenClaim := { program := "ytijelhbbkjjciaa", sum := "7dc8fedf3845ff83101fb99d2842d7dd76e6e59bfc3aa78b183c7d2715480a57", func := "loop.example/g00670/laws.FnExactHexOf", spec := "fnExactHexOf", apart := false }
def FnExactHexOfSaid : Prop := fnExactHexOfRow.holds Try.pinned (OpenSpec.ofChange fnExactHexOfSpec)

/-- ITS FALSE NEIGHBOUR: 'it returns false'. Refute it at one input. -/
def fnExactHexOfWrong : ChangeSpec := { name := "fnExactHexOf", fn := fun _ => fun
  | [d] => { results := [.lit (.bool false)], args := [d] }
  | _ => none }
def FnExactHexOfWrongFalsely : Prop := fnExactHexOfRow.holds Try.pinned (OpenSpec.ofChange fnExactHexOfWrong)

/-- 'laws.FnExactReadHex': WHATEVER THE INPUT: true; the input reads as it did. -/
def fnExactReadHexSpec : ChangeSpec := { name := "fnExactReadHex", fn := fun _ => fun
  | [d] => { results := [.lit (.bool true)], args := [d] }
  | _ => none }
def fnExactReadHexRow : OpenClaim := { program := "ytijelhbbkjjciaa", sum := "7dc8fedf3845ff83101fb99d2842d7dd76e6e59bfc3aa78b183c7d2715480a57", func := "loop.example/g00670/laws.FnExactReadHex", spec := "fnExactReadHex", inPlace := ["internal/bytealg.IndexByteString"], apart := false }
def FnExactReadHexSaid : Prop := fnExactReadHexRow.holds Try.pinned (OpenSpec.ofChange fnExactReadHexSpec)

/-- ITS FALSE NEIGHBOUR: 'it returns false'. Refute it at one input. -/
def fnExactReadHexWrong : ChangeSpec := { name := "fnExactReadHex", fn := fun _ => fun
  | [d] => { results := [.lit (.bool false)], args := [d] }
  | _ => none }
def FnExactReadHexWrongFalsely : Prop := fnExactReadHexRow.holds Try.pinned (OpenSpec.ofChange fnExactReadHexWrong)

/-- 'laws.FnExactIsBeginning': WHATEVER THE INPUT: true; the input reads as it did. -/
def fnExactIsBeginningSpec : ChangeSpec := { name := "fnExactIsBeginning", fn := fun _ => fun
  | [d1, d2] => { results := [.lit (.bool true)], args := [d1, d2] }
  | _ => none }
def fnExactIsBeginningRow : OpenClaim := { program := "ytijelhbbkjjciaa", sum := "7dc8fedf3845ff83101fb99d2842d7dd76e6e59bfc3aa78b183c7d2715480a57", func := "loop.example/g00670/laws.FnExactIsBeginning", spec := "fnExactIsBeginning", unfollowed := true, recurses := true, apart := false }
def FnExactIsBeginningSaid : Prop := fnExactIsBeginningRow.holds Try.pinned (OpenSpec.ofChange fnExactIsBeginningSpec)

/-- ITS FALSE NEIGHBOUR: 'it returns false'. Refute it at one input. -/
def fnExactIsBeginningWrong : ChangeSpec := { name := "fnExactIsBeginning", fn := fun _ => fun
  | [d1, d2] => { results := [.lit (.bool false)], args := [d1, d2] }
  | _ => none }
def FnExactIsBeginningWrongFalsely : Prop := fnExactIsBeginningRow.holds Try.pinned (OpenSpec.ofChange fnExactIsBeginningWrong)

/-- 'laws.FnExactWordsOf': WHATEVER THE INPUT: true; the input reads as it did. -/
def fnExactWordsOfSpec : ChangeSpec := { name := "fnExactWordsOf", fn := fun _ => fun
  | [d] => { results := [.lit (.bool true)], args := [d] }
  | _ => none }
def fnExactWordsOfRow : OpenClaim := { program := "ytijelhbbkjjciaa", sum := "7dc8fedf3845ff83101fb99d2842d7dd76e6e59bfc3aa78b183c7d2715480a57", func := "loop.example/g00670/laws.FnExactWordsOf", spec := "fnExactWordsOf", unfollowed := true, recurses := true, apart := false }
def FnExactWordsOfSaid : Prop := fnExactWordsOfRow.holds Try.pinned (OpenSpec.ofChange fnExactWordsOfSpec)

/-- ITS FALSE NEIGHBOUR: 'it returns false'. Refute it at one input. -/
def fnExactWordsOfWrong : ChangeSpec := { name := "fnExactWordsOf", fn := fun _ => fun
  | [d] => { results := [.lit (.bool false)], args := [d] }
  | _ => none }
def FnExactWordsOfWrongFalsely : Prop := fnExactWordsOfRow.holds Try.pinned (OpenSpec.ofChange fnExactWordsOfWrong)

/-- 'laws.FnExactIsAmong': WHATEVER THE INPUT: true; the input reads as it did. -/
def fnExactIsAmongSpec : ChangeSpec := { name := "fnExactIsAmong", fn := fun _ => fun
  | [d1, d2] => { results := [.lit (.bool true)], args := [d1, d2] }
  | _ => none }
def fnExactIsAmongRow : OpenClaim := { program := "ytijelhbbkjjciaa", sum := "7dc8fedf3845ff83101fb99d2842d7dd76e6e59bfc3aa78b183c7d2715480a57", func := "loop.example/g00670/laws.FnExactIsAmong", spec := "fnExactIsAmong", unfollowed := true, recurses := true, apart := false }
def FnExactIsAmongSaid : Prop := fnExactIsAmongRow.holds Try.pinned (OpenSpec.ofChange fnExactIsAmongSpec)

/-- ITS FALSE NEIGHBOUR: 'it returns false'. Refute it at one input. -/
def fnExactIsAmongWrong : ChangeSpec := { name := "fnExactIsAmong", fn := fun _ => fun
  | [d1, d2] => { results := [.lit (.bool false)], args := [d1, d2] }
  | _ => none }
def FnExactIsAmongWrongFalsely : Prop := fnExactIsAmongRow.holds Try.pinned (OpenSpec.ofChange fnExactIsAmongWrong)

/-- 'laws.FnExactLooseOf': WHATEVER THE INPUT: true; the input reads as it did. -/
def fnExactLooseOfSpec : ChangeSpec := { name := "fnExactLooseOf", fn := fun _ => fun
  | [d] => { results := [.lit (.bool true)], args := [d] }
  | _ => none }
def fnExactLooseOfRow : OpenClaim := { program := "ytijelhbbkjjciaa", sum := "7dc8fedf3845ff83101fb99d2842d7dd76e6e59bfc3aa78b183c7d2715480a57", func := "loop.example/g00670/laws.FnExactLooseOf", spec := "fnExactLooseOf", unfollowed := true, recurses := true, apart := false }
def FnExactLooseOfSaid : Prop := fnExactLooseOfRow.holds Try.pinned (OpenSpec.ofChange fnExactLooseOfSpec)

/-- ITS FALSE NEIGHBOUR: 'it returns false'. Refute it at one input. -/
def fnExactLooseOfWrong : ChangeSpec := { name := "fnExactLooseOf", fn := fun _ => fun
  | [d] => { results := [.lit (.bool false)], args := [d] }
  | _ => none }
def FnExactLooseOfWrongFalsely : Prop := fnExactLooseOfRow.holds Try.pinned (OpenSpec.ofChange fnExactLooseOfWrong)

/- THE SECOND FORM. 'bulk': how many values and letters a reading holds, each counted each time it is reached (what is shared counts as often as it is met; a slice's spare places count too). A statement '..UptoSaid' is the law's where the arguments, and the package variables that the reading takes, are together of bulk at most 1048576: NARROWER than '..Said'. Prove '..Said' where nothing that the law and all that it calls make is longer than what came in: it says more and counts as full. Else prove '..UptoSaid'. A law counts once. -/
mutual
def uptoBulk {H : Type} : DataW H → Nat
  | .lit (.string bytes) => bytes.length + 1
  | .lit _ => 1
  | .nil => 1
  | .ptr d => uptoBulk d + 1
  | .slice elems spare => uptoBulkAll elems + uptoBulkAll spare + 1
  | .agg parts => uptoBulkAll parts + 1
  | .iface _ d => uptoBulk d + 1
  | .map entries => uptoBulkEntries entries + 1
  | .held _ => 1
def uptoBulkAll {H : Type} : List (DataW H) → Nat
  | [] => 0
  | d :: r => uptoBulk d + uptoBulkAll r
def uptoBulkEntries {H : Type} : List (Lit × DataW H) → Nat
  | [] => 0
  | x :: r => uptoBulkEntry x + uptoBulkEntries r
def uptoBulkEntry {H : Type} : Lit × DataW H → Nat
  | (.string bytes, d) => bytes.length + uptoBulk d + 1
  | (_, d) => uptoBulk d + 1
 end
def uptoSmall : (H : Type) → List (DataW H) → Bool := fun _ ds => decide (uptoBulkAll ds ≤ 1048576)
def OpenSpec.upto (s : _root_.Go.ChangeSpec) : _root_.Go.OpenSpec := { _root_.Go.OpenSpec.ofChange s with cond := some uptoSmall }

/-- 'laws.FnExactHexOf', WHERE WHAT IT READS IS OF BULK AT MOST 1048576: true; the input reads as it did. -/
def fnExactHexOfUptoRow : OpenClaim := { program := "ytijelhbbkjjciaa", sum := "7dc8fedf3845ff83101fb99d2842d7dd76e6e59bfc3aa78b183c7d2715480a57", func := "loop.example/g00670/laws.FnExactHexOf", spec := "fnExactHexOf", apart := false, narrowed := true }
def FnExactHexOfUptoSaid : Prop := fnExactHexOfUptoRow.holds Try.pinned (OpenSpec.upto fnExactHexOfSpec)

/-- 'laws.FnExactReadHex', WHERE WHAT IT READS IS OF BULK AT MOST 1048576: true; the input reads as it did. -/
def fnExactReadHexUptoRow : OpenClaim := { program := "ytijelhbbkjjciaa", sum := "7dc8fedf3845ff83101fb99d2842d7dd76e6e59bfc3aa78b183c7d2715480a57", func := "loop.example/g00670/laws.FnExactReadHex", spec := "fnExactReadHex", inPlace := ["internal/bytealg.IndexByteString"], apart := false, narrowed := true }
def FnExactReadHexUptoSaid : Prop := fnExactReadHexUptoRow.holds Try.pinned (OpenSpec.upto fnExactReadHexSpec)

/-- 'laws.FnExactIsBeginning', WHERE WHAT IT READS IS OF BULK AT MOST 1048576: true; the input reads as it did. -/
def fnExactIsBeginningUptoRow : OpenClaim := { program := "ytijelhbbkjjciaa", sum := "7dc8fedf3845ff83101fb99d2842d7dd76e6e59bfc3aa78b183c7d2715480a57", func := "loop.example/g00670/laws.FnExactIsBeginning", spec := "fnExactIsBeginning", unfollowed := true, recurses := true, apart := false, narrowed := true }
def FnExactIsBeginningUptoSaid : Prop := fnExactIsBeginningUptoRow.holds Try.pinned (OpenSpec.upto fnExactIsBeginningSpec)

/-- 'laws.FnExactWordsOf', WHERE WHAT IT READS IS OF BULK AT MOST 1048576: true; the input reads as it did. -/
def fnExactWordsOfUptoRow : OpenClaim := { program := "ytijelhbbkjjciaa", sum := "7dc8fedf3845ff83101fb99d2842d7dd76e6e59bfc3aa78b183c7d2715480a57", func := "loop.example/g00670/laws.FnExactWordsOf", spec := "fnExactWordsOf", unfollowed := true, recurses := true, apart := false, narrowed := true }
def FnExactWordsOfUptoSaid : Prop := fnExactWordsOfUptoRow.holds Try.pinned (OpenSpec.upto fnExactWordsOfSpec)

/-- 'laws.FnExactIsAmong', WHERE WHAT IT READS IS OF BULK AT MOST 1048576: true; the input reads as it did. -/
def fnExactIsAmongUptoRow : OpenClaim := { program := "ytijelhbbkjjciaa", sum := "7dc8fedf3845ff83101fb99d2842d7dd76e6e59bfc3aa78b183c7d2715480a57", func := "loop.example/g00670/laws.FnExactIsAmong", spec := "fnExactIsAmong", unfollowed := true, recurses := true, apart := false, narrowed := true }
def FnExactIsAmongUptoSaid : Prop := fnExactIsAmongUptoRow.holds Try.pinned (OpenSpec.upto fnExactIsAmongSpec)

/-- 'laws.FnExactLooseOf', WHERE WHAT IT READS IS OF BULK AT MOST 1048576: true; the input reads as it did. -/
def fnExactLooseOfUptoRow : OpenClaim := { program := "ytijelhbbkjjciaa", sum := "7dc8fedf3845ff83101fb99d2842d7dd76e6e59bfc3aa78b183c7d2715480a57", func := "loop.example/g00670/laws.FnExactLooseOf", spec := "fnExactLooseOf", unfollowed := true, recurses := true, apart := false, narrowed := true }
def FnExactLooseOfUptoSaid : Prop := fnExactLooseOfUptoRow.holds Try.pinned (OpenSpec.upto fnExactLooseOfSpec)

end Rows
end Go.Proofs.Ytijelhbbkjjciaa
