/-
  No cell of these rows narrows 'for every input' (looked for: loops, veiled, ifaces, maps, wideKeys, modest, calm, conditions, laid).
  DERIVED. THE GIVEN ROWS OF THIS SEAT. 6 by the template 'for every input the law returns true; each argument reads behind the call as it read before'; 0 by the template 'total and deterministic' (their statements: YtblomclgbnacnaaTotals.lean).
  GIVEN WITH THE SEED: the statements are not yours to turn. If you find one false, say at which input.
  Laid BY PROGRAM, IN A SANDBOX (cutbox-rows.mjs): the forced cells as the released guide's own fill.sh prints them over the translation 949521647d00fbdd… (all of the seat's roots in one cut). By AI agents, Wed Nov 11 2026. No macro, syntax, notation, axiom, sorry.
-/
import Derived.Test.YtblomclgbnacnaaChecked
import GoSem.Claim
import GoSem.ClaimJoined
import GoSem.ClaimMapViews
import Derived.JoinedTies
import Derived.KernelRfl
namespace Go.Proofs.Ytblomclgbnacnaa
/- THE CELL 'sum', in the pinned program and in every row, IS THE sha256 OF THE DUMP (.gsa) THAT YtblomclgbnacnaaProg.lean LOADS. Nothing in Lean hashes anything: it is a label: what it is worth is what the hold of that sum in a sandbox is worth. -/
noncomputable def Try.pinned : Pinned := { name := "ytblomclgbnacnaa", sum := "949521647d00fbdd66a27326c131e8e502a056c600883d206524bdc373314b03", checked := Try.checked }
namespace Rows
def none {H : Type} : Left H := { results := [], args := [] }

/-- 'laws.FnExactStreamOf': WHATEVER THE INPUT: true; the input reads as it did. -/
def fnExactStreamOfSpec : ChangeSpec := { name := "fnExactStreamOf", fn := fun _ => fun
  | [d1, d2] => { results := [.lit (.bool true)], args := [d1, d2] }
  | _ => none }
def fnExactStreamOfRow : OpenClaim := { program := "ytblomclgbnacnaa", sum := "949521647d00fbdd66a27326c131e8e502a056c600883d206524bdc373314b03", func := "loop.example/g00670/laws.FnExactStreamOf", spec := "fnExactStreamOf", unfollowed := true, recurses := true, apart := false }
def FnExactStreamOfSaid : Prop := fnExactStreamOfRow.holds Try.pinned (OpenSpec.ofChange fnExactStreamOfSpec)

/-- ITS FALSE NEIGHBOUR: 'it returns false'. Refute it at one input. -/
def fnExactStreamOfWrong : ChangeSpec := { name := "fnExactStreamOf", fn := fun _ => fun
  | [d1, d2] => { results := [.lit (.bool false)], args := [d1, d2] }
  | _ => none }
def FnExactStreamOfWrongFalsely : Prop := fnExactStreamOfRow.holds Try.pinned (OpenSpec.ofChange fnExactStreamOfWrong)

/-- 'laws.FnLists': WHATEVER THE INPUT: true; the input reads as it did. -/
def fnListsSpec : ChangeSpec := { name := "fnLists", fn := fun _ => fun
  | [d] => { results := [.lit (.bool true)], args := [d] }
  | _ => none }
def fnListsRow : OpenClaim := { program := "ytblomclgbnacnaa", sum := "949521647d00fbdd66a27326c131e8e502a056c600883d206524bdc373314b03", func := "loop.example/g00670/laws.FnLists", spec := "fnLists", unfollowed := true, recurses := true, apart := false }
def FnListsSaid : Prop := fnListsRow.holds Try.pinned (OpenSpec.ofChange fnListsSpec)

/-- ITS FALSE NEIGHBOUR: 'it returns false'. Refute it at one input. -/
def fnListsWrong : ChangeSpec := { name := "fnLists", fn := fun _ => fun
  | [d] => { results := [.lit (.bool false)], args := [d] }
  | _ => none }
def FnListsWrongFalsely : Prop := fnListsRow.holds Try.pinned (OpenSpec.ofChange fnListsWrong)

/-- 'laws.FnAskings': WHATEVER THE INPUT: true; the input reads as it did. -/
def fnAskingsSpec : ChangeSpec := { name := "fnAskings", fn := fun _ => fun
  | [d] => { results := [.lit (.bool true)], args := [d] }
  | _ => none }
def fnAskingsRow : OpenClaim := { program := "ytblomclgbnacnaa", sum := "949521647d00fbdd66a27326c131e8e502a056c600883d206524bdc373314b03", func := "loop.example/g00670/laws.FnAskings", spec := "fnAskings", apart := false }
def FnAskingsSaid : Prop := fnAskingsRow.holds Try.pinned (OpenSpec.ofChange fnAskingsSpec)

/-- ITS FALSE NEIGHBOUR: 'it returns false'. Refute it at one input. -/
def fnAskingsWrong : ChangeSpec := { name := "fnAskings", fn := fun _ => fun
  | [d] => { results := [.lit (.bool false)], args := [d] }
  | _ => none }
def FnAskingsWrongFalsely : Prop := fnAskingsRow.holds Try.pinned (OpenSpec.ofChange fnAskingsWrong)

/-- 'laws.FnExactReadData': WHATEVER THE INPUT: true; the input reads as it did. -/
def fnExactReadDataSpec : ChangeSpec := { name := "fnExactReadData", fn := fun _ => fun
  | [d] => { results := [.lit (.bool true)], args := [d] }
  | _ => none }
def fnExactReadDataRow : OpenClaim := { program := "ytblomclgbnacnaa", sum := "949521647d00fbdd66a27326c131e8e502a056c600883d206524bdc373314b03", func := "loop.example/g00670/laws.FnExactReadData", spec := "fnExactReadData", apart := false }
def FnExactReadDataSaid : Prop := fnExactReadDataRow.holds Try.pinned (OpenSpec.ofChange fnExactReadDataSpec)

/-- ITS FALSE NEIGHBOUR: 'it returns false'. Refute it at one input. -/
def fnExactReadDataWrong : ChangeSpec := { name := "fnExactReadData", fn := fun _ => fun
  | [d] => { results := [.lit (.bool false)], args := [d] }
  | _ => none }
def FnExactReadDataWrongFalsely : Prop := fnExactReadDataRow.holds Try.pinned (OpenSpec.ofChange fnExactReadDataWrong)

/-- 'laws.FnExactReadAnswer': WHATEVER THE INPUT: true; the input reads as it did. -/
def fnExactReadAnswerSpec : ChangeSpec := { name := "fnExactReadAnswer", fn := fun _ => fun
  | [d] => { results := [.lit (.bool true)], args := [d] }
  | _ => none }
def fnExactReadAnswerRow : OpenClaim := { program := "ytblomclgbnacnaa", sum := "949521647d00fbdd66a27326c131e8e502a056c600883d206524bdc373314b03", func := "loop.example/g00670/laws.FnExactReadAnswer", spec := "fnExactReadAnswer", apart := false }
def FnExactReadAnswerSaid : Prop := fnExactReadAnswerRow.holds Try.pinned (OpenSpec.ofChange fnExactReadAnswerSpec)

/-- ITS FALSE NEIGHBOUR: 'it returns false'. Refute it at one input. -/
def fnExactReadAnswerWrong : ChangeSpec := { name := "fnExactReadAnswer", fn := fun _ => fun
  | [d] => { results := [.lit (.bool false)], args := [d] }
  | _ => none }
def FnExactReadAnswerWrongFalsely : Prop := fnExactReadAnswerRow.holds Try.pinned (OpenSpec.ofChange fnExactReadAnswerWrong)

/-- 'laws.FnExactReadAsconf': WHATEVER THE INPUT: true; the input reads as it did. -/
def fnExactReadAsconfSpec : ChangeSpec := { name := "fnExactReadAsconf", fn := fun _ => fun
  | [d] => { results := [.lit (.bool true)], args := [d] }
  | _ => none }
def fnExactReadAsconfRow : OpenClaim := { program := "ytblomclgbnacnaa", sum := "949521647d00fbdd66a27326c131e8e502a056c600883d206524bdc373314b03", func := "loop.example/g00670/laws.FnExactReadAsconf", spec := "fnExactReadAsconf", apart := false }
def FnExactReadAsconfSaid : Prop := fnExactReadAsconfRow.holds Try.pinned (OpenSpec.ofChange fnExactReadAsconfSpec)

/-- ITS FALSE NEIGHBOUR: 'it returns false'. Refute it at one input. -/
def fnExactReadAsconfWrong : ChangeSpec := { name := "fnExactReadAsconf", fn := fun _ => fun
  | [d] => { results := [.lit (.bool false)], args := [d] }
  | _ => none }
def FnExactReadAsconfWrongFalsely : Prop := fnExactReadAsconfRow.holds Try.pinned (OpenSpec.ofChange fnExactReadAsconfWrong)

/- THE SECOND FORM. 'bulk': how many values and letters a reading holds, each counted each time it is reached (what is shared counts as often as it is met; a slice's spare places count too). A statement '..UptoSaid' is the law's where the arguments, and the package variables that the reading takes, are together of bulk at most 1048576: NARROWER than '..Said'. Prove '..Said' where nothing that the law and all that it calls make is longer than what came in: it says more and counts as full. Else prove '..UptoSaid'. A law counts once. -/
mutual
def uptoBulk {H : Type} : DataW H → Nat
  | .lit (.string bytes) => bytes.length + 1
  | .lit _ => 1
  | .nil => 1
  | .ptr d => uptoBulk d + 1
  | .slice elems spare => uptoBulkAll elems + uptoBulkAll spare + 1
  | .agg parts => uptoBulkAll parts + 1
  | .iface _ d => uptoBulk d + 1
  | .map entries => uptoBulkEntries entries + 1
  | .held _ => 1
def uptoBulkAll {H : Type} : List (DataW H) → Nat
  | [] => 0
  | d :: r => uptoBulk d + uptoBulkAll r
def uptoBulkEntries {H : Type} : List (Lit × DataW H) → Nat
  | [] => 0
  | x :: r => uptoBulkEntry x + uptoBulkEntries r
def uptoBulkEntry {H : Type} : Lit × DataW H → Nat
  | (.string bytes, d) => bytes.length + uptoBulk d + 1
  | (_, d) => uptoBulk d + 1
 end
def uptoSmall : (H : Type) → List (DataW H) → Bool := fun _ ds => decide (uptoBulkAll ds ≤ 1048576)
def OpenSpec.upto (s : _root_.Go.ChangeSpec) : _root_.Go.OpenSpec := { _root_.Go.OpenSpec.ofChange s with cond := some uptoSmall }

/-- 'laws.FnExactStreamOf', WHERE WHAT IT READS IS OF BULK AT MOST 1048576: true; the input reads as it did. -/
def fnExactStreamOfUptoRow : OpenClaim := { program := "ytblomclgbnacnaa", sum := "949521647d00fbdd66a27326c131e8e502a056c600883d206524bdc373314b03", func := "loop.example/g00670/laws.FnExactStreamOf", spec := "fnExactStreamOf", unfollowed := true, recurses := true, apart := false, narrowed := true }
def FnExactStreamOfUptoSaid : Prop := fnExactStreamOfUptoRow.holds Try.pinned (OpenSpec.upto fnExactStreamOfSpec)

/-- 'laws.FnLists', WHERE WHAT IT READS IS OF BULK AT MOST 1048576: true; the input reads as it did. -/
def fnListsUptoRow : OpenClaim := { program := "ytblomclgbnacnaa", sum := "949521647d00fbdd66a27326c131e8e502a056c600883d206524bdc373314b03", func := "loop.example/g00670/laws.FnLists", spec := "fnLists", unfollowed := true, recurses := true, apart := false, narrowed := true }
def FnListsUptoSaid : Prop := fnListsUptoRow.holds Try.pinned (OpenSpec.upto fnListsSpec)

/-- 'laws.FnAskings', WHERE WHAT IT READS IS OF BULK AT MOST 1048576: true; the input reads as it did. -/
def fnAskingsUptoRow : OpenClaim := { program := "ytblomclgbnacnaa", sum := "949521647d00fbdd66a27326c131e8e502a056c600883d206524bdc373314b03", func := "loop.example/g00670/laws.FnAskings", spec := "fnAskings", apart := false, narrowed := true }
def FnAskingsUptoSaid : Prop := fnAskingsUptoRow.holds Try.pinned (OpenSpec.upto fnAskingsSpec)

/-- 'laws.FnExactReadData', WHERE WHAT IT READS IS OF BULK AT MOST 1048576: true; the input reads as it did. -/
def fnExactReadDataUptoRow : OpenClaim := { program := "ytblomclgbnacnaa", sum := "949521647d00fbdd66a27326c131e8e502a056c600883d206524bdc373314b03", func := "loop.example/g00670/laws.FnExactReadData", spec := "fnExactReadData", apart := false, narrowed := true }
def FnExactReadDataUptoSaid : Prop := fnExactReadDataUptoRow.holds Try.pinned (OpenSpec.upto fnExactReadDataSpec)

/-- 'laws.FnExactReadAnswer', WHERE WHAT IT READS IS OF BULK AT MOST 1048576: true; the input reads as it did. -/
def fnExactReadAnswerUptoRow : OpenClaim := { program := "ytblomclgbnacnaa", sum := "949521647d00fbdd66a27326c131e8e502a056c600883d206524bdc373314b03", func := "loop.example/g00670/laws.FnExactReadAnswer", spec := "fnExactReadAnswer", apart := false, narrowed := true }
def FnExactReadAnswerUptoSaid : Prop := fnExactReadAnswerUptoRow.holds Try.pinned (OpenSpec.upto fnExactReadAnswerSpec)

/-- 'laws.FnExactReadAsconf', WHERE WHAT IT READS IS OF BULK AT MOST 1048576: true; the input reads as it did. -/
def fnExactReadAsconfUptoRow : OpenClaim := { program := "ytblomclgbnacnaa", sum := "949521647d00fbdd66a27326c131e8e502a056c600883d206524bdc373314b03", func := "loop.example/g00670/laws.FnExactReadAsconf", spec := "fnExactReadAsconf", apart := false, narrowed := true }
def FnExactReadAsconfUptoSaid : Prop := fnExactReadAsconfUptoRow.holds Try.pinned (OpenSpec.upto fnExactReadAsconfSpec)

end Rows
end Go.Proofs.Ytblomclgbnacnaa
