/-
  NARROWER THAN 'FOR EVERY INPUT', by the rows' own cells (each row's printed sentence says how): LedgersUseful: laid · LedgersPrefix: laid · LedgersAny: laid · LedgersDrop: laid · LedgersOf: laid.
  DERIVED. THE GIVEN ROWS OF THIS SEAT. 5 by the template 'for every input the law returns true; each argument reads behind the call as it read before'; 0 by the template 'total and deterministic' (their statements: YtgmenpackpnmaaaGreatDoorTotals.lean).
  GIVEN WITH THE SEED: the statements are not yours to turn. If you find one false, say at which input.
  Laid BY PROGRAM, IN A SANDBOX (cutbox-rows.mjs): the forced cells as the released guide's own fill.sh prints them over the translation 0d5521c34a9f5b2d… (all of the seat's roots in one cut). By AI agents, Wed Nov 11 2026. No macro, syntax, notation, axiom, sorry.
-/
import Derived.Test.YtgmenpackpnmaaaGreatDoorChecked
import GoSem.Claim
import GoSem.ClaimJoined
import GoSem.ClaimMapViews
import Derived.JoinedTies
import Derived.KernelRfl
namespace Go.Proofs.YtgmenpackpnmaaaGreatDoor
/- THE CELL 'sum', in the pinned program and in every row, IS THE sha256 OF THE DUMP (.gsa) THAT YtgmenpackpnmaaaGreatDoorProg.lean LOADS. Nothing in Lean hashes anything: it is a label: what it is worth is what the hold of that sum in a sandbox is worth. -/
noncomputable def Tryz.pinned : Pinned := { name := "ytgmenpackpnmaaagreatdoor", sum := "0d5521c34a9f5b2dcc4a0c95d4d9221af18603a03a079cfeb9f6e4653fbdc168", checked := Tryz.checked }
namespace Rows
def none {H : Type} : Left H := { results := [], args := [] }

/- WHAT THE LISTED PACKAGE-LEVEL VARIABLES READ AS WHEN THE CALL BEGINS. Each datum BY PROGRAM (the guide's laid-datum.mjs) off the statement by which the dump's own 'gosem.cut.vars' lays the variable. In a bare row this is a premise. The card (YtgmenpackpnmaaaGreatDoorCards.lean) ties it to the program's text. -/
def laid_probecard_logic_fanins {H : Type} : DataW H := .agg [.agg [.lit (.int .i64 0), .lit (.int .i64 0)], .agg [.lit (.int .i64 0), .lit (.int .i64 0)], .agg [.lit (.int .i64 0), .lit (.int .i64 0)], .agg [.lit (.int .i64 1), .lit (.int .i64 1)], .agg [.lit (.int .i64 1), .lit (.int .i64 1)], .agg [.lit (.int .i64 2), .lit (.int .i64 16)], .agg [.lit (.int .i64 2), .lit (.int .i64 16)], .agg [.lit (.int .i64 2), .lit (.int .i64 16)], .agg [.lit (.int .i64 2), .lit (.int .i64 16)], .agg [.lit (.int .i64 2), .lit (.int .i64 16)], .agg [.lit (.int .i64 2), .lit (.int .i64 16)], .agg [.lit (.int .i64 3), .lit (.int .i64 3)], .agg [.lit (.int .i64 2), .lit (.int .i64 2)], .agg [.lit (.int .i64 1), .lit (.int .i64 16)], .agg [.lit (.int .i64 1), .lit (.int .i64 1)], .agg [.lit (.int .i64 0), .lit (.int .i64 0)]]
def laid_probecard_words_masks {H : Type} : DataW H := .agg [.agg [.lit (.int .u64 0), .lit (.int .u64 1)], .agg [.lit (.int .u64 1), .lit (.int .u64 0)], .agg [.lit (.int .u64 0), .lit (.int .u64 0)], .agg [.lit (.int .u64 1), .lit (.int .u64 1)]]

/-- 'probecardlaw21.LedgersUseful': WHATEVER THE INPUT: true; the input reads as it did. -/
def ledgersUsefulSpec : ChangeSpec := { name := "ledgersUseful", fn := fun _ => fun
  | [d] => { results := [.lit (.bool true)], args := [d] }
  | _ => none }
def ledgersUsefulRow : OpenClaim := { program := "ytgmenpackpnmaaagreatdoor", sum := "0d5521c34a9f5b2dcc4a0c95d4d9221af18603a03a079cfeb9f6e4653fbdc168", func := "probecard/probecardlaw21.LedgersUseful", spec := "ledgersUseful", inPlace := ["internal/bytealg.IndexByteString", "internal/bytealg.IndexString"], unfollowed := true, recurses := true, named := ["probecard/logic.fanins", "probecard/words.masks", "internal/bytealg.MaxLen"], apart := false, laid := [("probecard/logic.fanins", laid_probecard_logic_fanins), ("probecard/words.masks", laid_probecard_words_masks)] }
def LedgersUsefulSaid : Prop := ledgersUsefulRow.holds Tryz.pinned (OpenSpec.ofChange ledgersUsefulSpec)

/-- ITS FALSE NEIGHBOUR: 'it returns false'. Refute it at one input. -/
def ledgersUsefulWrong : ChangeSpec := { name := "ledgersUseful", fn := fun _ => fun
  | [d] => { results := [.lit (.bool false)], args := [d] }
  | _ => none }
def LedgersUsefulWrongFalsely : Prop := ledgersUsefulRow.holds Tryz.pinned (OpenSpec.ofChange ledgersUsefulWrong)

/-- 'probecardlaw21.LedgersPrefix': WHATEVER THE INPUT: true; the input reads as it did. -/
def ledgersPrefixSpec : ChangeSpec := { name := "ledgersPrefix", fn := fun _ => fun
  | [d1, d2] => { results := [.lit (.bool true)], args := [d1, d2] }
  | _ => none }
def ledgersPrefixRow : OpenClaim := { program := "ytgmenpackpnmaaagreatdoor", sum := "0d5521c34a9f5b2dcc4a0c95d4d9221af18603a03a079cfeb9f6e4653fbdc168", func := "probecard/probecardlaw21.LedgersPrefix", spec := "ledgersPrefix", inPlace := ["internal/bytealg.IndexByteString", "internal/bytealg.IndexString"], unfollowed := true, recurses := true, named := ["probecard/logic.fanins", "probecard/words.masks", "internal/bytealg.MaxLen"], apart := false, laid := [("probecard/logic.fanins", laid_probecard_logic_fanins), ("probecard/words.masks", laid_probecard_words_masks)] }
def LedgersPrefixSaid : Prop := ledgersPrefixRow.holds Tryz.pinned (OpenSpec.ofChange ledgersPrefixSpec)

/-- ITS FALSE NEIGHBOUR: 'it returns false'. Refute it at one input. -/
def ledgersPrefixWrong : ChangeSpec := { name := "ledgersPrefix", fn := fun _ => fun
  | [d1, d2] => { results := [.lit (.bool false)], args := [d1, d2] }
  | _ => none }
def LedgersPrefixWrongFalsely : Prop := ledgersPrefixRow.holds Tryz.pinned (OpenSpec.ofChange ledgersPrefixWrong)

/-- 'probecardlaw21.LedgersAny': WHATEVER THE INPUT: true; the input reads as it did. -/
def ledgersAnySpec : ChangeSpec := { name := "ledgersAny", fn := fun _ => fun
  | [d1, d2] => { results := [.lit (.bool true)], args := [d1, d2] }
  | _ => none }
def ledgersAnyRow : OpenClaim := { program := "ytgmenpackpnmaaagreatdoor", sum := "0d5521c34a9f5b2dcc4a0c95d4d9221af18603a03a079cfeb9f6e4653fbdc168", func := "probecard/probecardlaw21.LedgersAny", spec := "ledgersAny", inPlace := ["internal/bytealg.IndexByteString", "internal/bytealg.IndexString"], unfollowed := true, recurses := true, named := ["probecard/logic.fanins", "probecard/words.masks", "internal/bytealg.MaxLen"], apart := false, laid := [("probecard/logic.fanins", laid_probecard_logic_fanins), ("probecard/words.masks", laid_probecard_words_masks)] }
def LedgersAnySaid : Prop := ledgersAnyRow.holds Tryz.pinned (OpenSpec.ofChange ledgersAnySpec)

/-- ITS FALSE NEIGHBOUR: 'it returns false'. Refute it at one input. -/
def ledgersAnyWrong : ChangeSpec := { name := "ledgersAny", fn := fun _ => fun
  | [d1, d2] => { results := [.lit (.bool false)], args := [d1, d2] }
  | _ => none }
def LedgersAnyWrongFalsely : Prop := ledgersAnyRow.holds Tryz.pinned (OpenSpec.ofChange ledgersAnyWrong)

/-- 'probecardlaw21.LedgersDrop': WHATEVER THE INPUT: true; the input reads as it did. -/
def ledgersDropSpec : ChangeSpec := { name := "ledgersDrop", fn := fun _ => fun
  | [d1, d2] => { results := [.lit (.bool true)], args := [d1, d2] }
  | _ => none }
def ledgersDropRow : OpenClaim := { program := "ytgmenpackpnmaaagreatdoor", sum := "0d5521c34a9f5b2dcc4a0c95d4d9221af18603a03a079cfeb9f6e4653fbdc168", func := "probecard/probecardlaw21.LedgersDrop", spec := "ledgersDrop", inPlace := ["internal/bytealg.IndexByteString", "internal/bytealg.IndexString"], unfollowed := true, recurses := true, named := ["probecard/logic.fanins", "probecard/words.masks", "internal/bytealg.MaxLen"], apart := false, laid := [("probecard/logic.fanins", laid_probecard_logic_fanins), ("probecard/words.masks", laid_probecard_words_masks)] }
def LedgersDropSaid : Prop := ledgersDropRow.holds Tryz.pinned (OpenSpec.ofChange ledgersDropSpec)

/-- ITS FALSE NEIGHBOUR: 'it returns false'. Refute it at one input. -/
def ledgersDropWrong : ChangeSpec := { name := "ledgersDrop", fn := fun _ => fun
  | [d1, d2] => { results := [.lit (.bool false)], args := [d1, d2] }
  | _ => none }
def LedgersDropWrongFalsely : Prop := ledgersDropRow.holds Tryz.pinned (OpenSpec.ofChange ledgersDropWrong)

/-- 'probecardlaw21.LedgersOf': WHATEVER THE INPUT: true; the input reads as it did. -/
def ledgersOfSpec : ChangeSpec := { name := "ledgersOf", fn := fun _ => fun
  | [d] => { results := [.lit (.bool true)], args := [d] }
  | _ => none }
def ledgersOfRow : OpenClaim := { program := "ytgmenpackpnmaaagreatdoor", sum := "0d5521c34a9f5b2dcc4a0c95d4d9221af18603a03a079cfeb9f6e4653fbdc168", func := "probecard/probecardlaw21.LedgersOf", spec := "ledgersOf", inPlace := ["internal/bytealg.IndexByteString", "internal/bytealg.IndexString"], unfollowed := true, recurses := true, named := ["probecard/logic.fanins", "probecard/words.masks", "internal/bytealg.MaxLen"], apart := false, laid := [("probecard/logic.fanins", laid_probecard_logic_fanins), ("probecard/words.masks", laid_probecard_words_masks)] }
def LedgersOfSaid : Prop := ledgersOfRow.holds Tryz.pinned (OpenSpec.ofChange ledgersOfSpec)

/-- ITS FALSE NEIGHBOUR: 'it returns false'. Refute it at one input. -/
def ledgersOfWrong : ChangeSpec := { name := "ledgersOf", fn := fun _ => fun
  | [d] => { results := [.lit (.bool false)], args := [d] }
  | _ => none }
def LedgersOfWrongFalsely : Prop := ledgersOfRow.holds Tryz.pinned (OpenSpec.ofChange ledgersOfWrong)

/- THE SECOND FORM. 'bulk': how many values and letters a reading holds, each counted each time it is reached (what is shared counts as often as it is met; a slice's spare places count too). A statement '..UptoSaid' is the law's where the arguments, and the package variables that the reading takes, are together of bulk at most 1048576: NARROWER than '..Said'. Prove '..Said' where nothing that the law and all that it calls make is longer than what came in: it says more and counts as full. Else prove '..UptoSaid'. A law counts once. -/
mutual
def uptoBulk {H : Type} : DataW H → Nat
  | .lit (.string bytes) => bytes.length + 1
  | .lit _ => 1
  | .nil => 1
  | .ptr d => uptoBulk d + 1
  | .slice elems spare => uptoBulkAll elems + uptoBulkAll spare + 1
  | .agg parts => uptoBulkAll parts + 1
  | .iface _ d => uptoBulk d + 1
  | .map entries => uptoBulkEntries entries + 1
  | .held _ => 1
def uptoBulkAll {H : Type} : List (DataW H) → Nat
  | [] => 0
  | d :: r => uptoBulk d + uptoBulkAll r
def uptoBulkEntries {H : Type} : List (Lit × DataW H) → Nat
  | [] => 0
  | x :: r => uptoBulkEntry x + uptoBulkEntries r
def uptoBulkEntry {H : Type} : Lit × DataW H → Nat
  | (.string bytes, d) => bytes.length + uptoBulk d + 1
  | (_, d) => uptoBulk d + 1
 end
def uptoSmall : (H : Type) → List (DataW H) → Bool := fun _ ds => decide (uptoBulkAll ds ≤ 1048576)
def OpenSpec.upto (s : _root_.Go.ChangeSpec) : _root_.Go.OpenSpec := { _root_.Go.OpenSpec.ofChange s with cond := some uptoSmall }

/-- 'probecardlaw21.LedgersUseful', WHERE WHAT IT READS IS OF BULK AT MOST 1048576: true; the input reads as it did. -/
def ledgersUsefulUptoRow : OpenClaim := { program := "ytgmenpackpnmaaagreatdoor", sum := "0d5521c34a9f5b2dcc4a0c95d4d9221af18603a03a079cfeb9f6e4653fbdc168", func := "probecard/probecardlaw21.LedgersUseful", spec := "ledgersUseful", inPlace := ["internal/bytealg.IndexByteString", "internal/bytealg.IndexString"], unfollowed := true, recurses := true, named := ["probecard/logic.fanins", "probecard/words.masks", "internal/bytealg.MaxLen"], apart := false, laid := [("probecard/logic.fanins", laid_probecard_logic_fanins), ("probecard/words.masks", laid_probecard_words_masks)], narrowed := true }
def LedgersUsefulUptoSaid : Prop := ledgersUsefulUptoRow.holds Tryz.pinned (OpenSpec.upto ledgersUsefulSpec)

/-- 'probecardlaw21.LedgersPrefix', WHERE WHAT IT READS IS OF BULK AT MOST 1048576: true; the input reads as it did. -/
def ledgersPrefixUptoRow : OpenClaim := { program := "ytgmenpackpnmaaagreatdoor", sum := "0d5521c34a9f5b2dcc4a0c95d4d9221af18603a03a079cfeb9f6e4653fbdc168", func := "probecard/probecardlaw21.LedgersPrefix", spec := "ledgersPrefix", inPlace := ["internal/bytealg.IndexByteString", "internal/bytealg.IndexString"], unfollowed := true, recurses := true, named := ["probecard/logic.fanins", "probecard/words.masks", "internal/bytealg.MaxLen"], apart := false, laid := [("probecard/logic.fanins", laid_probecard_logic_fanins), ("probecard/words.masks", laid_probecard_words_masks)], narrowed := true }
def LedgersPrefixUptoSaid : Prop := ledgersPrefixUptoRow.holds Tryz.pinned (OpenSpec.upto ledgersPrefixSpec)

/-- 'probecardlaw21.LedgersAny', WHERE WHAT IT READS IS OF BULK AT MOST 1048576: true; the input reads as it did. -/
def ledgersAnyUptoRow : OpenClaim := { program := "ytgmenpackpnmaaagreatdoor", sum := "0d5521c34a9f5b2dcc4a0c95d4d9221af18603a03a079cfeb9f6e4653fbdc168", func := "probecard/probecardlaw21.LedgersAny", spec := "ledgersAny", inPlace := ["internal/bytealg.IndexByteString", "internal/bytealg.IndexString"], unfollowed := true, recurses := true, named := ["probecard/logic.fanins", "probecard/words.masks", "internal/bytealg.MaxLen"], apart := false, laid := [("probecard/logic.fanins", laid_probecard_logic_fanins), ("probecard/words.masks", laid_probecard_words_masks)], narrowed := true }
def LedgersAnyUptoSaid : Prop := ledgersAnyUptoRow.holds Tryz.pinned (OpenSpec.upto ledgersAnySpec)

/-- 'probecardlaw21.LedgersDrop', WHERE WHAT IT READS IS OF BULK AT MOST 1048576: true; the input reads as it did. -/
def ledgersDropUptoRow : OpenClaim := { program := "ytgmenpackpnmaaagreatdoor", sum := "0d5521c34a9f5b2dcc4a0c95d4d9221af18603a03a079cfeb9f6e4653fbdc168", func := "probecard/probecardlaw21.LedgersDrop", spec := "ledgersDrop", inPlace := ["internal/bytealg.IndexByteString", "internal/bytealg.IndexString"], unfollowed := true, recurses := true, named := ["probecard/logic.fanins", "probecard/words.masks", "internal/bytealg.MaxLen"], apart := false, laid := [("probecard/logic.fanins", laid_probecard_logic_fanins), ("probecard/words.masks", laid_probecard_words_masks)], narrowed := true }
def LedgersDropUptoSaid : Prop := ledgersDropUptoRow.holds Tryz.pinned (OpenSpec.upto ledgersDropSpec)

/-- 'probecardlaw21.LedgersOf', WHERE WHAT IT READS IS OF BULK AT MOST 1048576: true; the input reads as it did. -/
def ledgersOfUptoRow : OpenClaim := { program := "ytgmenpackpnmaaagreatdoor", sum := "0d5521c34a9f5b2dcc4a0c95d4d9221af18603a03a079cfeb9f6e4653fbdc168", func := "probecard/probecardlaw21.LedgersOf", spec := "ledgersOf", inPlace := ["internal/bytealg.IndexByteString", "internal/bytealg.IndexString"], unfollowed := true, recurses := true, named := ["probecard/logic.fanins", "probecard/words.masks", "internal/bytealg.MaxLen"], apart := false, laid := [("probecard/logic.fanins", laid_probecard_logic_fanins), ("probecard/words.masks", laid_probecard_words_masks)], narrowed := true }
def LedgersOfUptoSaid : Prop := ledgersOfUptoRow.holds Tryz.pinned (OpenSpec.upto ledgersOfSpec)

end Rows
end Go.Proofs.YtgmenpackpnmaaaGreatDoor
