/-
  NARROWER THAN 'FOR EVERY INPUT', by the rows' own cells (each row's printed sentence says how): FilterMatches: loops · FilterCounts: loops · FilterKinds: loops · DeltaApplies: loops · DeltaCodes: loops · EntryChecks: loops · EntryCodes: loops.
  DERIVED. THE GIVEN ROWS OF THIS SEAT. 10 by the template 'for every input the law returns true; each argument reads behind the call as it read before'; 0 by the template 'total and deterministic' (their statements: YtpkcbdhjnnnkbaaGreatTotals.lean).
  GIVEN WITH THE SEED: the statements are not yours to turn. If you find one false, say at which input.
  Laid BY PROGRAM, IN A SANDBOX (cutbox-rows.mjs): the forced cells as the released guide's own fill.sh prints them over the translation b0095c9e04d6f858… (all of the seat's roots in one cut). By AI agents, Wed Nov 11 2026. No macro, syntax, notation, axiom, sorry.
-/
import Derived.Test.YtpkcbdhjnnnkbaaGreatChecked
import GoSem.Claim
import GoSem.ClaimJoined
import GoSem.ClaimMapViews
import Derived.JoinedTies
import Derived.KernelRfl
namespace Go.Proofs.YtpkcbdhjnnnkbaaGreat
/- THE CELL 'sum', in the pinned program and in every row, IS THE sha256 OF THE DUMP (.gsa) THAT YtpkcbdhjnnnkbaaGreatProg.lean LOADS. Nothing in Lean hashes anything: it is a label: what it is worth is what the hold of that sum in a sandbox is worth. -/
noncomputable def Tryz.pinned : Pinned := { name := "ytpkcbdhjnnnkbaagreat", sum := "b0095c9e04d6f85863745da2ba7b58da5ef1dd60f49839beeddf5e0f2287d4eb", checked := Tryz.checked }
namespace Rows
def none {H : Type} : Left H := { results := [], args := [] }

/-- 'tributarylaw19.FilterMatches': WHATEVER THE INPUT: true; the input reads as it did. -/
def filterMatchesSpec : ChangeSpec := { name := "filterMatches", fn := fun _ => fun
  | [d1, d2] => { results := [.lit (.bool true)], args := [d1, d2] }
  | _ => none }
def filterMatchesRow : OpenClaim := { program := "ytpkcbdhjnnnkbaagreat", sum := "b0095c9e04d6f85863745da2ba7b58da5ef1dd60f49839beeddf5e0f2287d4eb", func := "tributary/tributarylaw19.FilterMatches", spec := "filterMatches", inPlace := ["internal/bytealg.IndexByteString", "internal/bytealg.IndexString", "internal/bytealg.abigen_runtime_cmpstring"], unfollowed := true, recurses := true, named := ["internal/bytealg.MaxLen"], loops := true, apart := false }
def FilterMatchesSaid : Prop := filterMatchesRow.holds Tryz.pinned (OpenSpec.ofChange filterMatchesSpec)

/-- ITS FALSE NEIGHBOUR: 'it returns false'. Refute it at one input. -/
def filterMatchesWrong : ChangeSpec := { name := "filterMatches", fn := fun _ => fun
  | [d1, d2] => { results := [.lit (.bool false)], args := [d1, d2] }
  | _ => none }
def FilterMatchesWrongFalsely : Prop := filterMatchesRow.holds Tryz.pinned (OpenSpec.ofChange filterMatchesWrong)

/-- 'tributarylaw19.FilterCounts': WHATEVER THE INPUT: true; the input reads as it did. -/
def filterCountsSpec : ChangeSpec := { name := "filterCounts", fn := fun _ => fun
  | [d1, d2] => { results := [.lit (.bool true)], args := [d1, d2] }
  | _ => none }
def filterCountsRow : OpenClaim := { program := "ytpkcbdhjnnnkbaagreat", sum := "b0095c9e04d6f85863745da2ba7b58da5ef1dd60f49839beeddf5e0f2287d4eb", func := "tributary/tributarylaw19.FilterCounts", spec := "filterCounts", inPlace := ["internal/bytealg.IndexByteString", "internal/bytealg.IndexString", "internal/bytealg.abigen_runtime_cmpstring"], unfollowed := true, recurses := true, named := ["internal/bytealg.MaxLen"], loops := true, apart := false }
def FilterCountsSaid : Prop := filterCountsRow.holds Tryz.pinned (OpenSpec.ofChange filterCountsSpec)

/-- ITS FALSE NEIGHBOUR: 'it returns false'. Refute it at one input. -/
def filterCountsWrong : ChangeSpec := { name := "filterCounts", fn := fun _ => fun
  | [d1, d2] => { results := [.lit (.bool false)], args := [d1, d2] }
  | _ => none }
def FilterCountsWrongFalsely : Prop := filterCountsRow.holds Tryz.pinned (OpenSpec.ofChange filterCountsWrong)

/-- 'tributarylaw19.FilterKinds': WHATEVER THE INPUT: true; the input reads as it did. -/
def filterKindsSpec : ChangeSpec := { name := "filterKinds", fn := fun _ => fun
  | [d1, d2] => { results := [.lit (.bool true)], args := [d1, d2] }
  | _ => none }
def filterKindsRow : OpenClaim := { program := "ytpkcbdhjnnnkbaagreat", sum := "b0095c9e04d6f85863745da2ba7b58da5ef1dd60f49839beeddf5e0f2287d4eb", func := "tributary/tributarylaw19.FilterKinds", spec := "filterKinds", inPlace := ["internal/bytealg.IndexByteString", "internal/bytealg.IndexString", "internal/bytealg.abigen_runtime_cmpstring"], unfollowed := true, recurses := true, named := ["internal/bytealg.MaxLen"], loops := true, apart := false }
def FilterKindsSaid : Prop := filterKindsRow.holds Tryz.pinned (OpenSpec.ofChange filterKindsSpec)

/-- ITS FALSE NEIGHBOUR: 'it returns false'. Refute it at one input. -/
def filterKindsWrong : ChangeSpec := { name := "filterKinds", fn := fun _ => fun
  | [d1, d2] => { results := [.lit (.bool false)], args := [d1, d2] }
  | _ => none }
def FilterKindsWrongFalsely : Prop := filterKindsRow.holds Tryz.pinned (OpenSpec.ofChange filterKindsWrong)

/-- 'tributarylaw06.DeltaApplies': WHATEVER THE INPUT: true; the input reads as it did. -/
def deltaAppliesSpec : ChangeSpec := { name := "deltaApplies", fn := fun _ => fun
  | [d1, d2] => { results := [.lit (.bool true)], args := [d1, d2] }
  | _ => none }
def deltaAppliesRow : OpenClaim := { program := "ytpkcbdhjnnnkbaagreat", sum := "b0095c9e04d6f85863745da2ba7b58da5ef1dd60f49839beeddf5e0f2287d4eb", func := "tributary/tributarylaw06.DeltaApplies", spec := "deltaApplies", inPlace := ["internal/bytealg.IndexByteString", "internal/bytealg.IndexString"], unfollowed := true, recurses := true, named := ["internal/bytealg.MaxLen"], loops := true, apart := false }
def DeltaAppliesSaid : Prop := deltaAppliesRow.holds Tryz.pinned (OpenSpec.ofChange deltaAppliesSpec)

/-- ITS FALSE NEIGHBOUR: 'it returns false'. Refute it at one input. -/
def deltaAppliesWrong : ChangeSpec := { name := "deltaApplies", fn := fun _ => fun
  | [d1, d2] => { results := [.lit (.bool false)], args := [d1, d2] }
  | _ => none }
def DeltaAppliesWrongFalsely : Prop := deltaAppliesRow.holds Tryz.pinned (OpenSpec.ofChange deltaAppliesWrong)

/-- 'tributarylaw06.DeltaCodes': WHATEVER THE INPUT: true; the input reads as it did. -/
def deltaCodesSpec : ChangeSpec := { name := "deltaCodes", fn := fun _ => fun
  | [d1, d2] => { results := [.lit (.bool true)], args := [d1, d2] }
  | _ => none }
def deltaCodesRow : OpenClaim := { program := "ytpkcbdhjnnnkbaagreat", sum := "b0095c9e04d6f85863745da2ba7b58da5ef1dd60f49839beeddf5e0f2287d4eb", func := "tributary/tributarylaw06.DeltaCodes", spec := "deltaCodes", inPlace := ["internal/bytealg.IndexByteString", "internal/bytealg.IndexString"], unfollowed := true, recurses := true, named := ["internal/bytealg.MaxLen"], loops := true, apart := false }
def DeltaCodesSaid : Prop := deltaCodesRow.holds Tryz.pinned (OpenSpec.ofChange deltaCodesSpec)

/-- ITS FALSE NEIGHBOUR: 'it returns false'. Refute it at one input. -/
def deltaCodesWrong : ChangeSpec := { name := "deltaCodes", fn := fun _ => fun
  | [d1, d2] => { results := [.lit (.bool false)], args := [d1, d2] }
  | _ => none }
def DeltaCodesWrongFalsely : Prop := deltaCodesRow.holds Tryz.pinned (OpenSpec.ofChange deltaCodesWrong)

/-- 'tributarylaw06.DeltaReads': WHATEVER THE INPUT: true; the input reads as it did. -/
def deltaReadsSpec : ChangeSpec := { name := "deltaReads", fn := fun _ => fun
  | [d1, d2] => { results := [.lit (.bool true)], args := [d1, d2] }
  | _ => none }
def deltaReadsRow : OpenClaim := { program := "ytpkcbdhjnnnkbaagreat", sum := "b0095c9e04d6f85863745da2ba7b58da5ef1dd60f49839beeddf5e0f2287d4eb", func := "tributary/tributarylaw06.DeltaReads", spec := "deltaReads", inPlace := ["internal/bytealg.IndexByteString", "internal/bytealg.IndexString"], unfollowed := true, recurses := true, named := ["internal/bytealg.MaxLen"], apart := false }
def DeltaReadsSaid : Prop := deltaReadsRow.holds Tryz.pinned (OpenSpec.ofChange deltaReadsSpec)

/-- ITS FALSE NEIGHBOUR: 'it returns false'. Refute it at one input. -/
def deltaReadsWrong : ChangeSpec := { name := "deltaReads", fn := fun _ => fun
  | [d1, d2] => { results := [.lit (.bool false)], args := [d1, d2] }
  | _ => none }
def DeltaReadsWrongFalsely : Prop := deltaReadsRow.holds Tryz.pinned (OpenSpec.ofChange deltaReadsWrong)

/-- 'tributarylaw13.EntryChecks': WHATEVER THE INPUT: true; the input reads as it did. -/
def entryChecksSpec : ChangeSpec := { name := "entryChecks", fn := fun _ => fun
  | [d1, d2] => { results := [.lit (.bool true)], args := [d1, d2] }
  | _ => none }
def entryChecksRow : OpenClaim := { program := "ytpkcbdhjnnnkbaagreat", sum := "b0095c9e04d6f85863745da2ba7b58da5ef1dd60f49839beeddf5e0f2287d4eb", func := "tributary/tributarylaw13.EntryChecks", spec := "entryChecks", inPlace := ["internal/bytealg.IndexByteString", "internal/bytealg.IndexString", "internal/bytealg.abigen_runtime_cmpstring"], unfollowed := true, recurses := true, named := ["internal/bytealg.MaxLen"], loops := true, apart := false }
def EntryChecksSaid : Prop := entryChecksRow.holds Tryz.pinned (OpenSpec.ofChange entryChecksSpec)

/-- ITS FALSE NEIGHBOUR: 'it returns false'. Refute it at one input. -/
def entryChecksWrong : ChangeSpec := { name := "entryChecks", fn := fun _ => fun
  | [d1, d2] => { results := [.lit (.bool false)], args := [d1, d2] }
  | _ => none }
def EntryChecksWrongFalsely : Prop := entryChecksRow.holds Tryz.pinned (OpenSpec.ofChange entryChecksWrong)

/-- 'tributarylaw13.EntryCodes': WHATEVER THE INPUT: true; the input reads as it did. -/
def entryCodesSpec : ChangeSpec := { name := "entryCodes", fn := fun _ => fun
  | [d] => { results := [.lit (.bool true)], args := [d] }
  | _ => none }
def entryCodesRow : OpenClaim := { program := "ytpkcbdhjnnnkbaagreat", sum := "b0095c9e04d6f85863745da2ba7b58da5ef1dd60f49839beeddf5e0f2287d4eb", func := "tributary/tributarylaw13.EntryCodes", spec := "entryCodes", inPlace := ["internal/bytealg.IndexByteString", "internal/bytealg.IndexString", "internal/bytealg.abigen_runtime_cmpstring"], unfollowed := true, recurses := true, named := ["internal/bytealg.MaxLen"], loops := true, apart := false }
def EntryCodesSaid : Prop := entryCodesRow.holds Tryz.pinned (OpenSpec.ofChange entryCodesSpec)

/-- ITS FALSE NEIGHBOUR: 'it returns false'. Refute it at one input. -/
def entryCodesWrong : ChangeSpec := { name := "entryCodes", fn := fun _ => fun
  | [d] => { results := [.lit (.bool false)], args := [d] }
  | _ => none }
def EntryCodesWrongFalsely : Prop := entryCodesRow.holds Tryz.pinned (OpenSpec.ofChange entryCodesWrong)

/-- 'tributarylaw13.EntryDecodes': WHATEVER THE INPUT: true; the input reads as it did. -/
def entryDecodesSpec : ChangeSpec := { name := "entryDecodes", fn := fun _ => fun
  | [d] => { results := [.lit (.bool true)], args := [d] }
  | _ => none }
def entryDecodesRow : OpenClaim := { program := "ytpkcbdhjnnnkbaagreat", sum := "b0095c9e04d6f85863745da2ba7b58da5ef1dd60f49839beeddf5e0f2287d4eb", func := "tributary/tributarylaw13.EntryDecodes", spec := "entryDecodes", inPlace := ["internal/bytealg.IndexByteString", "internal/bytealg.IndexString", "internal/bytealg.abigen_runtime_cmpstring"], unfollowed := true, recurses := true, named := ["internal/bytealg.MaxLen"], apart := false }
def EntryDecodesSaid : Prop := entryDecodesRow.holds Tryz.pinned (OpenSpec.ofChange entryDecodesSpec)

/-- ITS FALSE NEIGHBOUR: 'it returns false'. Refute it at one input. -/
def entryDecodesWrong : ChangeSpec := { name := "entryDecodes", fn := fun _ => fun
  | [d] => { results := [.lit (.bool false)], args := [d] }
  | _ => none }
def EntryDecodesWrongFalsely : Prop := entryDecodesRow.holds Tryz.pinned (OpenSpec.ofChange entryDecodesWrong)

/-- 'tributarylaw13.EntryReads': WHATEVER THE INPUT: true; the input reads as it did. -/
def entryReadsSpec : ChangeSpec := { name := "entryReads", fn := fun _ => fun
  | [d1, d2] => { results := [.lit (.bool true)], args := [d1, d2] }
  | _ => none }
def entryReadsRow : OpenClaim := { program := "ytpkcbdhjnnnkbaagreat", sum := "b0095c9e04d6f85863745da2ba7b58da5ef1dd60f49839beeddf5e0f2287d4eb", func := "tributary/tributarylaw13.EntryReads", spec := "entryReads", inPlace := ["internal/bytealg.IndexByteString", "internal/bytealg.IndexString", "internal/bytealg.abigen_runtime_cmpstring"], unfollowed := true, recurses := true, named := ["internal/bytealg.MaxLen"], apart := false }
def EntryReadsSaid : Prop := entryReadsRow.holds Tryz.pinned (OpenSpec.ofChange entryReadsSpec)

/-- ITS FALSE NEIGHBOUR: 'it returns false'. Refute it at one input. -/
def entryReadsWrong : ChangeSpec := { name := "entryReads", fn := fun _ => fun
  | [d1, d2] => { results := [.lit (.bool false)], args := [d1, d2] }
  | _ => none }
def EntryReadsWrongFalsely : Prop := entryReadsRow.holds Tryz.pinned (OpenSpec.ofChange entryReadsWrong)

/- THE SECOND FORM. 'bulk': how many values and letters a reading holds, each counted each time it is reached (what is shared counts as often as it is met; a slice's spare places count too). A statement '..UptoSaid' is the law's where the arguments, and the package variables that the reading takes, are together of bulk at most 1048576: NARROWER than '..Said'. Prove '..Said' where nothing that the law and all that it calls make is longer than what came in: it says more and counts as full. Else prove '..UptoSaid'. A law counts once. -/
mutual
def uptoBulk {H : Type} : DataW H → Nat
  | .lit (.string bytes) => bytes.length + 1
  | .lit _ => 1
  | .nil => 1
  | .ptr d => uptoBulk d + 1
  | .slice elems spare => uptoBulkAll elems + uptoBulkAll spare + 1
  | .agg parts => uptoBulkAll parts + 1
  | .iface _ d => uptoBulk d + 1
  | .map entries => uptoBulkEntries entries + 1
  | .held _ => 1
def uptoBulkAll {H : Type} : List (DataW H) → Nat
  | [] => 0
  | d :: r => uptoBulk d + uptoBulkAll r
def uptoBulkEntries {H : Type} : List (Lit × DataW H) → Nat
  | [] => 0
  | x :: r => uptoBulkEntry x + uptoBulkEntries r
def uptoBulkEntry {H : Type} : Lit × DataW H → Nat
  | (.string bytes, d) => bytes.length + uptoBulk d + 1
  | (_, d) => uptoBulk d + 1
 end
def uptoSmall : (H : Type) → List (DataW H) → Bool := fun _ ds => decide (uptoBulkAll ds ≤ 1048576)
def OpenSpec.upto (s : _root_.Go.ChangeSpec) : _root_.Go.OpenSpec := { _root_.Go.OpenSpec.ofChange s with cond := some uptoSmall }

/-- 'tributarylaw19.FilterMatches', WHERE WHAT IT READS IS OF BULK AT MOST 1048576: true; the input reads as it did. -/
def filterMatchesUptoRow : OpenClaim := { program := "ytpkcbdhjnnnkbaagreat", sum := "b0095c9e04d6f85863745da2ba7b58da5ef1dd60f49839beeddf5e0f2287d4eb", func := "tributary/tributarylaw19.FilterMatches", spec := "filterMatches", inPlace := ["internal/bytealg.IndexByteString", "internal/bytealg.IndexString", "internal/bytealg.abigen_runtime_cmpstring"], unfollowed := true, recurses := true, named := ["internal/bytealg.MaxLen"], loops := true, apart := false, narrowed := true }
def FilterMatchesUptoSaid : Prop := filterMatchesUptoRow.holds Tryz.pinned (OpenSpec.upto filterMatchesSpec)

/-- 'tributarylaw19.FilterCounts', WHERE WHAT IT READS IS OF BULK AT MOST 1048576: true; the input reads as it did. -/
def filterCountsUptoRow : OpenClaim := { program := "ytpkcbdhjnnnkbaagreat", sum := "b0095c9e04d6f85863745da2ba7b58da5ef1dd60f49839beeddf5e0f2287d4eb", func := "tributary/tributarylaw19.FilterCounts", spec := "filterCounts", inPlace := ["internal/bytealg.IndexByteString", "internal/bytealg.IndexString", "internal/bytealg.abigen_runtime_cmpstring"], unfollowed := true, recurses := true, named := ["internal/bytealg.MaxLen"], loops := true, apart := false, narrowed := true }
def FilterCountsUptoSaid : Prop := filterCountsUptoRow.holds Tryz.pinned (OpenSpec.upto filterCountsSpec)

/-- 'tributarylaw19.FilterKinds', WHERE WHAT IT READS IS OF BULK AT MOST 1048576: true; the input reads as it did. -/
def filterKindsUptoRow : OpenClaim := { program := "ytpkcbdhjnnnkbaagreat", sum := "b0095c9e04d6f85863745da2ba7b58da5ef1dd60f49839beeddf5e0f2287d4eb", func := "tributary/tributarylaw19.FilterKinds", spec := "filterKinds", inPlace := ["internal/bytealg.IndexByteString", "internal/bytealg.IndexString", "internal/bytealg.abigen_runtime_cmpstring"], unfollowed := true, recurses := true, named := ["internal/bytealg.MaxLen"], loops := true, apart := false, narrowed := true }
def FilterKindsUptoSaid : Prop := filterKindsUptoRow.holds Tryz.pinned (OpenSpec.upto filterKindsSpec)

/-- 'tributarylaw06.DeltaApplies', WHERE WHAT IT READS IS OF BULK AT MOST 1048576: true; the input reads as it did. -/
def deltaAppliesUptoRow : OpenClaim := { program := "ytpkcbdhjnnnkbaagreat", sum := "b0095c9e04d6f85863745da2ba7b58da5ef1dd60f49839beeddf5e0f2287d4eb", func := "tributary/tributarylaw06.DeltaApplies", spec := "deltaApplies", inPlace := ["internal/bytealg.IndexByteString", "internal/bytealg.IndexString"], unfollowed := true, recurses := true, named := ["internal/bytealg.MaxLen"], loops := true, apart := false, narrowed := true }
def DeltaAppliesUptoSaid : Prop := deltaAppliesUptoRow.holds Tryz.pinned (OpenSpec.upto deltaAppliesSpec)

/-- 'tributarylaw06.DeltaCodes', WHERE WHAT IT READS IS OF BULK AT MOST 1048576: true; the input reads as it did. -/
def deltaCodesUptoRow : OpenClaim := { program := "ytpkcbdhjnnnkbaagreat", sum := "b0095c9e04d6f85863745da2ba7b58da5ef1dd60f49839beeddf5e0f2287d4eb", func := "tributary/tributarylaw06.DeltaCodes", spec := "deltaCodes", inPlace := ["internal/bytealg.IndexByteString", "internal/bytealg.IndexString"], unfollowed := true, recurses := true, named := ["internal/bytealg.MaxLen"], loops := true, apart := false, narrowed := true }
def DeltaCodesUptoSaid : Prop := deltaCodesUptoRow.holds Tryz.pinned (OpenSpec.upto deltaCodesSpec)

/-- 'tributarylaw06.DeltaReads', WHERE WHAT IT READS IS OF BULK AT MOST 1048576: true; the input reads as it did. -/
def deltaReadsUptoRow : OpenClaim := { program := "ytpkcbdhjnnnkbaagreat", sum := "b0095c9e04d6f85863745da2ba7b58da5ef1dd60f49839beeddf5e0f2287d4eb", func := "tributary/tributarylaw06.DeltaReads", spec := "deltaReads", inPlace := ["internal/bytealg.IndexByteString", "internal/bytealg.IndexString"], unfollowed := true, recurses := true, named := ["internal/bytealg.MaxLen"], apart := false, narrowed := true }
def DeltaReadsUptoSaid : Prop := deltaReadsUptoRow.holds Tryz.pinned (OpenSpec.upto deltaReadsSpec)

/-- 'tributarylaw13.EntryChecks', WHERE WHAT IT READS IS OF BULK AT MOST 1048576: true; the input reads as it did. -/
def entryChecksUptoRow : OpenClaim := { program := "ytpkcbdhjnnnkbaagreat", sum := "b0095c9e04d6f85863745da2ba7b58da5ef1dd60f49839beeddf5e0f2287d4eb", func := "tributary/tributarylaw13.EntryChecks", spec := "entryChecks", inPlace := ["internal/bytealg.IndexByteString", "internal/bytealg.IndexString", "internal/bytealg.abigen_runtime_cmpstring"], unfollowed := true, recurses := true, named := ["internal/bytealg.MaxLen"], loops := true, apart := false, narrowed := true }
def EntryChecksUptoSaid : Prop := entryChecksUptoRow.holds Tryz.pinned (OpenSpec.upto entryChecksSpec)

/-- 'tributarylaw13.EntryCodes', WHERE WHAT IT READS IS OF BULK AT MOST 1048576: true; the input reads as it did. -/
def entryCodesUptoRow : OpenClaim := { program := "ytpkcbdhjnnnkbaagreat", sum := "b0095c9e04d6f85863745da2ba7b58da5ef1dd60f49839beeddf5e0f2287d4eb", func := "tributary/tributarylaw13.EntryCodes", spec := "entryCodes", inPlace := ["internal/bytealg.IndexByteString", "internal/bytealg.IndexString", "internal/bytealg.abigen_runtime_cmpstring"], unfollowed := true, recurses := true, named := ["internal/bytealg.MaxLen"], loops := true, apart := false, narrowed := true }
def EntryCodesUptoSaid : Prop := entryCodesUptoRow.holds Tryz.pinned (OpenSpec.upto entryCodesSpec)

/-- 'tributarylaw13.EntryDecodes', WHERE WHAT IT READS IS OF BULK AT MOST 1048576: true; the input reads as it did. -/
def entryDecodesUptoRow : OpenClaim := { program := "ytpkcbdhjnnnkbaagreat", sum := "b0095c9e04d6f85863745da2ba7b58da5ef1dd60f49839beeddf5e0f2287d4eb", func := "tributary/tributarylaw13.EntryDecodes", spec := "entryDecodes", inPlace := ["internal/bytealg.IndexByteString", "internal/bytealg.IndexString", "internal/bytealg.abigen_runtime_cmpstring"], unfollowed := true, recurses := true, named := ["internal/bytealg.MaxLen"], apart := false, narrowed := true }
def EntryDecodesUptoSaid : Prop := entryDecodesUptoRow.holds Tryz.pinned (OpenSpec.upto entryDecodesSpec)

/-- 'tributarylaw13.EntryReads', WHERE WHAT IT READS IS OF BULK AT MOST 1048576: true; the input reads as it did. -/
def entryReadsUptoRow : OpenClaim := { program := "ytpkcbdhjnnnkbaagreat", sum := "b0095c9e04d6f85863745da2ba7b58da5ef1dd60f49839beeddf5e0f2287d4eb", func := "tributary/tributarylaw13.EntryReads", spec := "entryReads", inPlace := ["internal/bytealg.IndexByteString", "internal/bytealg.IndexString", "internal/bytealg.abigen_runtime_cmpstring"], unfollowed := true, recurses := true, named := ["internal/bytealg.MaxLen"], apart := false, narrowed := true }
def EntryReadsUptoSaid : Prop := entryReadsUptoRow.holds Tryz.pinned (OpenSpec.upto entryReadsSpec)

end Rows
end Go.Proofs.YtpkcbdhjnnnkbaaGreat
