/-
  No cell of these rows narrows 'for every input' (looked for: loops, veiled, ifaces, maps, wideKeys, modest, calm, conditions, laid).
  DERIVED. THE GIVEN ROWS OF THIS SEAT. 12 by the template 'for every input the law returns true; each argument reads behind the call as it read before'; 0 by the template 'total and deterministic' (their statements: YtionaakahhgdjaaTotals.lean).
  GIVEN WITH THE SEED: the statements are not yours to turn. If you find one false, say at which input.
  Laid BY PROGRAM, IN A SANDBOX (cutbox-rows.mjs): the forced cells as the released guide's own fill.sh prints them over the translation d4e50c3fbc02525d… (all of the seat's roots in one cut). By AI agents, Wed Nov 11 2026. No macro, syntax, notation, axiom, sorry.
-/
import Derived.Test.YtionaakahhgdjaaChecked
import GoSem.Claim
import GoSem.ClaimJoined
import GoSem.ClaimMapViews
import Derived.JoinedTies
import Derived.KernelRfl
namespace Go.Proofs.Ytionaakahhgdjaa
/- THE CELL 'sum', in the pinned program and in every row, IS THE sha256 OF THE DUMP (.gsa) THAT YtionaakahhgdjaaProg.lean LOADS. Nothing in Lean hashes anything: it is a label: what it is worth is what the hold of that sum in a sandbox is worth. -/
noncomputable def Try.pinned : Pinned := { name := "ytionaakahhgdjaa", sum := "d4e50c3fbc02525d4dedbd30939d7eb51503807b06fe8247f1e7e94692c55b38", checked := Try.checked }
namespace Rows
def none {H : Type} : Left H := { results := [], args := [] }

/-- 'laws.FnExactStrengthOf': WHATEVER THE INPUT: true; the input reads as it did. -/
def fnExactStrengthOfSpec : ChangeSpec := { name := "fnExactStrengthOf", fn := fun _ => fun
  | [d1, d2] => { results := [.lit (.bool true)], args := [d1, d2] }
  | _ => none }
def fnExactStrengthOfRow : OpenClaim := { program := "ytionaakahhgdjaa", sum := "d4e50c3fbc02525d4dedbd30939d7eb51503807b06fe8247f1e7e94692c55b38", func := "loop.example/g01411/laws.FnExactStrengthOf", spec := "fnExactStrengthOf", unfollowed := true, recurses := true, apart := false }
def FnExactStrengthOfSaid : Prop := fnExactStrengthOfRow.holds Try.pinned (OpenSpec.ofChange fnExactStrengthOfSpec)

/-- ITS FALSE NEIGHBOUR: 'it returns false'. Refute it at one input. -/
def fnExactStrengthOfWrong : ChangeSpec := { name := "fnExactStrengthOf", fn := fun _ => fun
  | [d1, d2] => { results := [.lit (.bool false)], args := [d1, d2] }
  | _ => none }
def FnExactStrengthOfWrongFalsely : Prop := fnExactStrengthOfRow.holds Try.pinned (OpenSpec.ofChange fnExactStrengthOfWrong)

/-- 'laws.FnExactNewChoices': WHATEVER THE INPUT: true; the input reads as it did. -/
def fnExactNewChoicesSpec : ChangeSpec := { name := "fnExactNewChoices", fn := fun _ => fun
  | [d1, d2, d3] => { results := [.lit (.bool true)], args := [d1, d2, d3] }
  | _ => none }
def fnExactNewChoicesRow : OpenClaim := { program := "ytionaakahhgdjaa", sum := "d4e50c3fbc02525d4dedbd30939d7eb51503807b06fe8247f1e7e94692c55b38", func := "loop.example/g01411/laws.FnExactNewChoices", spec := "fnExactNewChoices", unfollowed := true, recurses := true, apart := false }
def FnExactNewChoicesSaid : Prop := fnExactNewChoicesRow.holds Try.pinned (OpenSpec.ofChange fnExactNewChoicesSpec)

/-- ITS FALSE NEIGHBOUR: 'it returns false'. Refute it at one input. -/
def fnExactNewChoicesWrong : ChangeSpec := { name := "fnExactNewChoices", fn := fun _ => fun
  | [d1, d2, d3] => { results := [.lit (.bool false)], args := [d1, d2, d3] }
  | _ => none }
def FnExactNewChoicesWrongFalsely : Prop := fnExactNewChoicesRow.holds Try.pinned (OpenSpec.ofChange fnExactNewChoicesWrong)

/-- 'laws.FnExactGreedyRows': WHATEVER THE INPUT: true; the input reads as it did. -/
def fnExactGreedyRowsSpec : ChangeSpec := { name := "fnExactGreedyRows", fn := fun _ => fun
  | [d1, d2] => { results := [.lit (.bool true)], args := [d1, d2] }
  | _ => none }
def fnExactGreedyRowsRow : OpenClaim := { program := "ytionaakahhgdjaa", sum := "d4e50c3fbc02525d4dedbd30939d7eb51503807b06fe8247f1e7e94692c55b38", func := "loop.example/g01411/laws.FnExactGreedyRows", spec := "fnExactGreedyRows", unfollowed := true, recurses := true, apart := false }
def FnExactGreedyRowsSaid : Prop := fnExactGreedyRowsRow.holds Try.pinned (OpenSpec.ofChange fnExactGreedyRowsSpec)

/-- ITS FALSE NEIGHBOUR: 'it returns false'. Refute it at one input. -/
def fnExactGreedyRowsWrong : ChangeSpec := { name := "fnExactGreedyRows", fn := fun _ => fun
  | [d1, d2] => { results := [.lit (.bool false)], args := [d1, d2] }
  | _ => none }
def FnExactGreedyRowsWrongFalsely : Prop := fnExactGreedyRowsRow.holds Try.pinned (OpenSpec.ofChange fnExactGreedyRowsWrong)

/-- 'laws.FnExactLeanRows': WHATEVER THE INPUT: true; the input reads as it did. -/
def fnExactLeanRowsSpec : ChangeSpec := { name := "fnExactLeanRows", fn := fun _ => fun
  | [d1, d2, d3] => { results := [.lit (.bool true)], args := [d1, d2, d3] }
  | _ => none }
def fnExactLeanRowsRow : OpenClaim := { program := "ytionaakahhgdjaa", sum := "d4e50c3fbc02525d4dedbd30939d7eb51503807b06fe8247f1e7e94692c55b38", func := "loop.example/g01411/laws.FnExactLeanRows", spec := "fnExactLeanRows", unfollowed := true, recurses := true, apart := false }
def FnExactLeanRowsSaid : Prop := fnExactLeanRowsRow.holds Try.pinned (OpenSpec.ofChange fnExactLeanRowsSpec)

/-- ITS FALSE NEIGHBOUR: 'it returns false'. Refute it at one input. -/
def fnExactLeanRowsWrong : ChangeSpec := { name := "fnExactLeanRows", fn := fun _ => fun
  | [d1, d2, d3] => { results := [.lit (.bool false)], args := [d1, d2, d3] }
  | _ => none }
def FnExactLeanRowsWrongFalsely : Prop := fnExactLeanRowsRow.holds Try.pinned (OpenSpec.ofChange fnExactLeanRowsWrong)

/-- 'laws.FnExactCountMissing': WHATEVER THE INPUT: true; the input reads as it did. -/
def fnExactCountMissingSpec : ChangeSpec := { name := "fnExactCountMissing", fn := fun _ => fun
  | [d1, d2, d3] => { results := [.lit (.bool true)], args := [d1, d2, d3] }
  | _ => none }
def fnExactCountMissingRow : OpenClaim := { program := "ytionaakahhgdjaa", sum := "d4e50c3fbc02525d4dedbd30939d7eb51503807b06fe8247f1e7e94692c55b38", func := "loop.example/g01411/laws.FnExactCountMissing", spec := "fnExactCountMissing", unfollowed := true, recurses := true, apart := false }
def FnExactCountMissingSaid : Prop := fnExactCountMissingRow.holds Try.pinned (OpenSpec.ofChange fnExactCountMissingSpec)

/-- ITS FALSE NEIGHBOUR: 'it returns false'. Refute it at one input. -/
def fnExactCountMissingWrong : ChangeSpec := { name := "fnExactCountMissing", fn := fun _ => fun
  | [d1, d2, d3] => { results := [.lit (.bool false)], args := [d1, d2, d3] }
  | _ => none }
def FnExactCountMissingWrongFalsely : Prop := fnExactCountMissingRow.holds Try.pinned (OpenSpec.ofChange fnExactCountMissingWrong)

/-- 'laws.FnExactMissingChoices': WHATEVER THE INPUT: true; the input reads as it did. -/
def fnExactMissingChoicesSpec : ChangeSpec := { name := "fnExactMissingChoices", fn := fun _ => fun
  | [d1, d2, d3] => { results := [.lit (.bool true)], args := [d1, d2, d3] }
  | _ => none }
def fnExactMissingChoicesRow : OpenClaim := { program := "ytionaakahhgdjaa", sum := "d4e50c3fbc02525d4dedbd30939d7eb51503807b06fe8247f1e7e94692c55b38", func := "loop.example/g01411/laws.FnExactMissingChoices", spec := "fnExactMissingChoices", unfollowed := true, recurses := true, apart := false }
def FnExactMissingChoicesSaid : Prop := fnExactMissingChoicesRow.holds Try.pinned (OpenSpec.ofChange fnExactMissingChoicesSpec)

/-- ITS FALSE NEIGHBOUR: 'it returns false'. Refute it at one input. -/
def fnExactMissingChoicesWrong : ChangeSpec := { name := "fnExactMissingChoices", fn := fun _ => fun
  | [d1, d2, d3] => { results := [.lit (.bool false)], args := [d1, d2, d3] }
  | _ => none }
def FnExactMissingChoicesWrongFalsely : Prop := fnExactMissingChoicesRow.holds Try.pinned (OpenSpec.ofChange fnExactMissingChoicesWrong)

/-- 'laws.FnExactWordsReached': WHATEVER THE INPUT: true; the input reads as it did. -/
def fnExactWordsReachedSpec : ChangeSpec := { name := "fnExactWordsReached", fn := fun _ => fun
  | [d1, d2, d3, d4] => { results := [.lit (.bool true)], args := [d1, d2, d3, d4] }
  | _ => none }
def fnExactWordsReachedRow : OpenClaim := { program := "ytionaakahhgdjaa", sum := "d4e50c3fbc02525d4dedbd30939d7eb51503807b06fe8247f1e7e94692c55b38", func := "loop.example/g01411/laws.FnExactWordsReached", spec := "fnExactWordsReached", unfollowed := true, recurses := true, apart := false }
def FnExactWordsReachedSaid : Prop := fnExactWordsReachedRow.holds Try.pinned (OpenSpec.ofChange fnExactWordsReachedSpec)

/-- ITS FALSE NEIGHBOUR: 'it returns false'. Refute it at one input. -/
def fnExactWordsReachedWrong : ChangeSpec := { name := "fnExactWordsReached", fn := fun _ => fun
  | [d1, d2, d3, d4] => { results := [.lit (.bool false)], args := [d1, d2, d3, d4] }
  | _ => none }
def FnExactWordsReachedWrongFalsely : Prop := fnExactWordsReachedRow.holds Try.pinned (OpenSpec.ofChange fnExactWordsReachedWrong)

/-- 'laws.FnExactCodeByColumns': WHATEVER THE INPUT: true; the input reads as it did. -/
def fnExactCodeByColumnsSpec : ChangeSpec := { name := "fnExactCodeByColumns", fn := fun _ => fun
  | [d1, d2, d3] => { results := [.lit (.bool true)], args := [d1, d2, d3] }
  | _ => none }
def fnExactCodeByColumnsRow : OpenClaim := { program := "ytionaakahhgdjaa", sum := "d4e50c3fbc02525d4dedbd30939d7eb51503807b06fe8247f1e7e94692c55b38", func := "loop.example/g01411/laws.FnExactCodeByColumns", spec := "fnExactCodeByColumns", unfollowed := true, recurses := true, apart := false }
def FnExactCodeByColumnsSaid : Prop := fnExactCodeByColumnsRow.holds Try.pinned (OpenSpec.ofChange fnExactCodeByColumnsSpec)

/-- ITS FALSE NEIGHBOUR: 'it returns false'. Refute it at one input. -/
def fnExactCodeByColumnsWrong : ChangeSpec := { name := "fnExactCodeByColumns", fn := fun _ => fun
  | [d1, d2, d3] => { results := [.lit (.bool false)], args := [d1, d2, d3] }
  | _ => none }
def FnExactCodeByColumnsWrongFalsely : Prop := fnExactCodeByColumnsRow.holds Try.pinned (OpenSpec.ofChange fnExactCodeByColumnsWrong)

/-- 'laws.FnExactChoiceBound': WHATEVER THE INPUT: true; the input reads as it did. -/
def fnExactChoiceBoundSpec : ChangeSpec := { name := "fnExactChoiceBound", fn := fun _ => fun
  | [d1, d2] => { results := [.lit (.bool true)], args := [d1, d2] }
  | _ => none }
def fnExactChoiceBoundRow : OpenClaim := { program := "ytionaakahhgdjaa", sum := "d4e50c3fbc02525d4dedbd30939d7eb51503807b06fe8247f1e7e94692c55b38", func := "loop.example/g01411/laws.FnExactChoiceBound", spec := "fnExactChoiceBound", recurses := true, apart := false }
def FnExactChoiceBoundSaid : Prop := fnExactChoiceBoundRow.holds Try.pinned (OpenSpec.ofChange fnExactChoiceBoundSpec)

/-- ITS FALSE NEIGHBOUR: 'it returns false'. Refute it at one input. -/
def fnExactChoiceBoundWrong : ChangeSpec := { name := "fnExactChoiceBound", fn := fun _ => fun
  | [d1, d2] => { results := [.lit (.bool false)], args := [d1, d2] }
  | _ => none }
def FnExactChoiceBoundWrongFalsely : Prop := fnExactChoiceBoundRow.holds Try.pinned (OpenSpec.ofChange fnExactChoiceBoundWrong)

/-- 'laws.FnTickets': WHATEVER THE INPUT: true; the input reads as it did. -/
def fnTicketsSpec : ChangeSpec := { name := "fnTickets", fn := fun _ => fun
  | [d] => { results := [.lit (.bool true)], args := [d] }
  | _ => none }
def fnTicketsRow : OpenClaim := { program := "ytionaakahhgdjaa", sum := "d4e50c3fbc02525d4dedbd30939d7eb51503807b06fe8247f1e7e94692c55b38", func := "loop.example/g01411/laws.FnTickets", spec := "fnTickets", unfollowed := true, recurses := true, apart := false }
def FnTicketsSaid : Prop := fnTicketsRow.holds Try.pinned (OpenSpec.ofChange fnTicketsSpec)

/-- ITS FALSE NEIGHBOUR: 'it returns false'. Refute it at one input. -/
def fnTicketsWrong : ChangeSpec := { name := "fnTickets", fn := fun _ => fun
  | [d] => { results := [.lit (.bool false)], args := [d] }
  | _ => none }
def FnTicketsWrongFalsely : Prop := fnTicketsRow.holds Try.pinned (OpenSpec.ofChange fnTicketsWrong)

/-- 'laws.FnExactGreedyTickets': WHATEVER THE INPUT: true; the input reads as it did. -/
def fnExactGreedyTicketsSpec : ChangeSpec := { name := "fnExactGreedyTickets", fn := fun _ => fun
  | [d] => { results := [.lit (.bool true)], args := [d] }
  | _ => none }
def fnExactGreedyTicketsRow : OpenClaim := { program := "ytionaakahhgdjaa", sum := "d4e50c3fbc02525d4dedbd30939d7eb51503807b06fe8247f1e7e94692c55b38", func := "loop.example/g01411/laws.FnExactGreedyTickets", spec := "fnExactGreedyTickets", recurses := true, apart := false }
def FnExactGreedyTicketsSaid : Prop := fnExactGreedyTicketsRow.holds Try.pinned (OpenSpec.ofChange fnExactGreedyTicketsSpec)

/-- ITS FALSE NEIGHBOUR: 'it returns false'. Refute it at one input. -/
def fnExactGreedyTicketsWrong : ChangeSpec := { name := "fnExactGreedyTickets", fn := fun _ => fun
  | [d] => { results := [.lit (.bool false)], args := [d] }
  | _ => none }
def FnExactGreedyTicketsWrongFalsely : Prop := fnExactGreedyTicketsRow.holds Try.pinned (OpenSpec.ofChange fnExactGreedyTicketsWrong)

/-- 'laws.FnBlocks': WHATEVER THE INPUT: true; the input reads as it did. -/
def fnBlocksSpec : ChangeSpec := { name := "fnBlocks", fn := fun _ => fun
  | [d] => { results := [.lit (.bool true)], args := [d] }
  | _ => none }
def fnBlocksRow : OpenClaim := { program := "ytionaakahhgdjaa", sum := "d4e50c3fbc02525d4dedbd30939d7eb51503807b06fe8247f1e7e94692c55b38", func := "loop.example/g01411/laws.FnBlocks", spec := "fnBlocks", unfollowed := true, recurses := true, apart := false }
def FnBlocksSaid : Prop := fnBlocksRow.holds Try.pinned (OpenSpec.ofChange fnBlocksSpec)

/-- ITS FALSE NEIGHBOUR: 'it returns false'. Refute it at one input. -/
def fnBlocksWrong : ChangeSpec := { name := "fnBlocks", fn := fun _ => fun
  | [d] => { results := [.lit (.bool false)], args := [d] }
  | _ => none }
def FnBlocksWrongFalsely : Prop := fnBlocksRow.holds Try.pinned (OpenSpec.ofChange fnBlocksWrong)

/- THE SECOND FORM. 'bulk': how many values and letters a reading holds, each counted each time it is reached (what is shared counts as often as it is met; a slice's spare places count too). A statement '..UptoSaid' is the law's where the arguments, and the package variables that the reading takes, are together of bulk at most 1048576: NARROWER than '..Said'. Prove '..Said' where nothing that the law and all that it calls make is longer than what came in: it says more and counts as full. Else prove '..UptoSaid'. A law counts once. -/
mutual
def uptoBulk {H : Type} : DataW H → Nat
  | .lit (.string bytes) => bytes.length + 1
  | .lit _ => 1
  | .nil => 1
  | .ptr d => uptoBulk d + 1
  | .slice elems spare => uptoBulkAll elems + uptoBulkAll spare + 1
  | .agg parts => uptoBulkAll parts + 1
  | .iface _ d => uptoBulk d + 1
  | .map entries => uptoBulkEntries entries + 1
  | .held _ => 1
def uptoBulkAll {H : Type} : List (DataW H) → Nat
  | [] => 0
  | d :: r => uptoBulk d + uptoBulkAll r
def uptoBulkEntries {H : Type} : List (Lit × DataW H) → Nat
  | [] => 0
  | x :: r => uptoBulkEntry x + uptoBulkEntries r
def uptoBulkEntry {H : Type} : Lit × DataW H → Nat
  | (.string bytes, d) => bytes.length + uptoBulk d + 1
  | (_, d) => uptoBulk d + 1
 end
def uptoSmall : (H : Type) → List (DataW H) → Bool := fun _ ds => decide (uptoBulkAll ds ≤ 1048576)
def OpenSpec.upto (s : _root_.Go.ChangeSpec) : _root_.Go.OpenSpec := { _root_.Go.OpenSpec.ofChange s with cond := some uptoSmall }

/-- 'laws.FnExactStrengthOf', WHERE WHAT IT READS IS OF BULK AT MOST 1048576: true; the input reads as it did. -/
def fnExactStrengthOfUptoRow : OpenClaim := { program := "ytionaakahhgdjaa", sum := "d4e50c3fbc02525d4dedbd30939d7eb51503807b06fe8247f1e7e94692c55b38", func := "loop.example/g01411/laws.FnExactStrengthOf", spec := "fnExactStrengthOf", unfollowed := true, recurses := true, apart := false, narrowed := true }
def FnExactStrengthOfUptoSaid : Prop := fnExactStrengthOfUptoRow.holds Try.pinned (OpenSpec.upto fnExactStrengthOfSpec)

/-- 'laws.FnExactNewChoices', WHERE WHAT IT READS IS OF BULK AT MOST 1048576: true; the input reads as it did. -/
def fnExactNewChoicesUptoRow : OpenClaim := { program := "ytionaakahhgdjaa", sum := "d4e50c3fbc02525d4dedbd30939d7eb51503807b06fe8247f1e7e94692c55b38", func := "loop.example/g01411/laws.FnExactNewChoices", spec := "fnExactNewChoices", unfollowed := true, recurses := true, apart := false, narrowed := true }
def FnExactNewChoicesUptoSaid : Prop := fnExactNewChoicesUptoRow.holds Try.pinned (OpenSpec.upto fnExactNewChoicesSpec)

/-- 'laws.FnExactGreedyRows', WHERE WHAT IT READS IS OF BULK AT MOST 1048576: true; the input reads as it did. -/
def fnExactGreedyRowsUptoRow : OpenClaim := { program := "ytionaakahhgdjaa", sum := "d4e50c3fbc02525d4dedbd30939d7eb51503807b06fe8247f1e7e94692c55b38", func := "loop.example/g01411/laws.FnExactGreedyRows", spec := "fnExactGreedyRows", unfollowed := true, recurses := true, apart := false, narrowed := true }
def FnExactGreedyRowsUptoSaid : Prop := fnExactGreedyRowsUptoRow.holds Try.pinned (OpenSpec.upto fnExactGreedyRowsSpec)

/-- 'laws.FnExactLeanRows', WHERE WHAT IT READS IS OF BULK AT MOST 1048576: true; the input reads as it did. -/
def fnExactLeanRowsUptoRow : OpenClaim := { program := "ytionaakahhgdjaa", sum := "d4e50c3fbc02525d4dedbd30939d7eb51503807b06fe8247f1e7e94692c55b38", func := "loop.example/g01411/laws.FnExactLeanRows", spec := "fnExactLeanRows", unfollowed := true, recurses := true, apart := false, narrowed := true }
def FnExactLeanRowsUptoSaid : Prop := fnExactLeanRowsUptoRow.holds Try.pinned (OpenSpec.upto fnExactLeanRowsSpec)

/-- 'laws.FnExactCountMissing', WHERE WHAT IT READS IS OF BULK AT MOST 1048576: true; the input reads as it did. -/
def fnExactCountMissingUptoRow : OpenClaim := { program := "ytionaakahhgdjaa", sum := "d4e50c3fbc02525d4dedbd30939d7eb51503807b06fe8247f1e7e94692c55b38", func := "loop.example/g01411/laws.FnExactCountMissing", spec := "fnExactCountMissing", unfollowed := true, recurses := true, apart := false, narrowed := true }
def FnExactCountMissingUptoSaid : Prop := fnExactCountMissingUptoRow.holds Try.pinned (OpenSpec.upto fnExactCountMissingSpec)

/-- 'laws.FnExactMissingChoices', WHERE WHAT IT READS IS OF BULK AT MOST 1048576: true; the input reads as it did. -/
def fnExactMissingChoicesUptoRow : OpenClaim := { program := "ytionaakahhgdjaa", sum := "d4e50c3fbc02525d4dedbd30939d7eb51503807b06fe8247f1e7e94692c55b38", func := "loop.example/g01411/laws.FnExactMissingChoices", spec := "fnExactMissingChoices", unfollowed := true, recurses := true, apart := false, narrowed := true }
def FnExactMissingChoicesUptoSaid : Prop := fnExactMissingChoicesUptoRow.holds Try.pinned (OpenSpec.upto fnExactMissingChoicesSpec)

/-- 'laws.FnExactWordsReached', WHERE WHAT IT READS IS OF BULK AT MOST 1048576: true; the input reads as it did. -/
def fnExactWordsReachedUptoRow : OpenClaim := { program := "ytionaakahhgdjaa", sum := "d4e50c3fbc02525d4dedbd30939d7eb51503807b06fe8247f1e7e94692c55b38", func := "loop.example/g01411/laws.FnExactWordsReached", spec := "fnExactWordsReached", unfollowed := true, recurses := true, apart := false, narrowed := true }
def FnExactWordsReachedUptoSaid : Prop := fnExactWordsReachedUptoRow.holds Try.pinned (OpenSpec.upto fnExactWordsReachedSpec)

/-- 'laws.FnExactCodeByColumns', WHERE WHAT IT READS IS OF BULK AT MOST 1048576: true; the input reads as it did. -/
def fnExactCodeByColumnsUptoRow : OpenClaim := { program := "ytionaakahhgdjaa", sum := "d4e50c3fbc02525d4dedbd30939d7eb51503807b06fe8247f1e7e94692c55b38", func := "loop.example/g01411/laws.FnExactCodeByColumns", spec := "fnExactCodeByColumns", unfollowed := true, recurses := true, apart := false, narrowed := true }
def FnExactCodeByColumnsUptoSaid : Prop := fnExactCodeByColumnsUptoRow.holds Try.pinned (OpenSpec.upto fnExactCodeByColumnsSpec)

/-- 'laws.FnExactChoiceBound', WHERE WHAT IT READS IS OF BULK AT MOST 1048576: true; the input reads as it did. -/
def fnExactChoiceBoundUptoRow : OpenClaim := { program := "ytionaakahhgdjaa", sum := "d4e50c3fbc02525d4dedbd30939d7eb51503807b06fe8247f1e7e94692c55b38", func := "loop.example/g01411/laws.FnExactChoiceBound", spec := "fnExactChoiceBound", recurses := true, apart := false, narrowed := true }
def FnExactChoiceBoundUptoSaid : Prop := fnExactChoiceBoundUptoRow.holds Try.pinned (OpenSpec.upto fnExactChoiceBoundSpec)

/-- 'laws.FnTickets', WHERE WHAT IT READS IS OF BULK AT MOST 1048576: true; the input reads as it did. -/
def fnTicketsUptoRow : OpenClaim := { program := "ytionaakahhgdjaa", sum := "d4e50c3fbc02525d4dedbd30939d7eb51503807b06fe8247f1e7e94692c55b38", func := "loop.example/g01411/laws.FnTickets", spec := "fnTickets", unfollowed := true, recurses := true, apart := false, narrowed := true }
def FnTicketsUptoSaid : Prop := fnTicketsUptoRow.holds Try.pinned (OpenSpec.upto fnTicketsSpec)

/-- 'laws.FnExactGreedyTickets', WHERE WHAT IT READS IS OF BULK AT MOST 1048576: true; the input reads as it did. -/
def fnExactGreedyTicketsUptoRow : OpenClaim := { program := "ytionaakahhgdjaa", sum := "d4e50c3fbc02525d4dedbd30939d7eb51503807b06fe8247f1e7e94692c55b38", func := "loop.example/g01411/laws.FnExactGreedyTickets", spec := "fnExactGreedyTickets", recurses := true, apart := false, narrowed := true }
def FnExactGreedyTicketsUptoSaid : Prop := fnExactGreedyTicketsUptoRow.holds Try.pinned (OpenSpec.upto fnExactGreedyTicketsSpec)

/-- 'laws.FnBlocks', WHERE WHAT IT READS IS OF BULK AT MOST 1048576: true; the input reads as it did. -/
def fnBlocksUptoRow : OpenClaim := { program := "ytionaakahhgdjaa", sum := "d4e50c3fbc02525d4dedbd30939d7eb51503807b06fe8247f1e7e94692c55b38", func := "loop.example/g01411/laws.FnBlocks", spec := "fnBlocks", unfollowed := true, recurses := true, apart := false, narrowed := true }
def FnBlocksUptoSaid : Prop := fnBlocksUptoRow.holds Try.pinned (OpenSpec.upto fnBlocksSpec)

end Rows
end Go.Proofs.Ytionaakahhgdjaa
