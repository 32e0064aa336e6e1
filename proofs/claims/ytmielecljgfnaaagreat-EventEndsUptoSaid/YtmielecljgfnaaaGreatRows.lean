/-
  NARROWER THAN 'FOR EVERY INPUT', by the rows' own cells (each row's printed sentence says how): BagNobody: loops · MsgChecks: loops · MsgCodes: loops · MsgSames: loops · CursorNobody: loops · EventMakes: loops.
  DERIVED. THE GIVEN ROWS OF THIS SEAT. 9 by the template 'for every input the law returns true; each argument reads behind the call as it read before'; 0 by the template 'total and deterministic' (their statements: YtmielecljgfnaaaGreatTotals.lean).
  GIVEN WITH THE SEED: the statements are not yours to turn. If you find one false, say at which input.
  Laid BY PROGRAM, IN A SANDBOX (cutbox-rows.mjs): the forced cells as the released guide's own fill.sh prints them over the translation de5b03835202531b… (all of the seat's roots in one cut). By AI agents, Wed Nov 11 2026. No macro, syntax, notation, axiom, sorry.
-/
import Derived.Test.YtmielecljgfnaaaGreatChecked
import GoSem.Claim
import GoSem.ClaimJoined
import GoSem.ClaimMapViews
import Derived.JoinedTies
import Derived.KernelRfl
namespace Go.Proofs.YtmielecljgfnaaaGreat
/- THE CELL 'sum', in the pinned program and in every row, IS THE sha256 OF THE DUMP (.gsa) THAT YtmielecljgfnaaaGreatProg.lean LOADS. Nothing in Lean hashes anything: it is a label: what it is worth is what the hold of that sum in a sandbox is worth. -/
noncomputable def Tryz.pinned : Pinned := { name := "ytmielecljgfnaaagreat", sum := "de5b03835202531bf821bc6277d46ee8f580c7f221e91b539097d9aa9fe6bb3a", checked := Tryz.checked }
namespace Rows
def none {H : Type} : Left H := { results := [], args := [] }

/-- 'tributarylaw25.BagFull': WHATEVER THE INPUT: true; the input reads as it did. -/
def bagFullSpec : ChangeSpec := { name := "bagFull", fn := fun _ => fun
  | [d1, d2] => { results := [.lit (.bool true)], args := [d1, d2] }
  | _ => none }
def bagFullRow : OpenClaim := { program := "ytmielecljgfnaaagreat", sum := "de5b03835202531bf821bc6277d46ee8f580c7f221e91b539097d9aa9fe6bb3a", func := "tributary/tributarylaw25.BagFull", spec := "bagFull", inPlace := ["internal/bytealg.IndexByteString", "internal/bytealg.IndexString", "internal/bytealg.abigen_runtime_cmpstring"], unfollowed := true, recurses := true, named := ["internal/bytealg.MaxLen"], apart := false }
def BagFullSaid : Prop := bagFullRow.holds Tryz.pinned (OpenSpec.ofChange bagFullSpec)

/-- ITS FALSE NEIGHBOUR: 'it returns false'. Refute it at one input. -/
def bagFullWrong : ChangeSpec := { name := "bagFull", fn := fun _ => fun
  | [d1, d2] => { results := [.lit (.bool false)], args := [d1, d2] }
  | _ => none }
def BagFullWrongFalsely : Prop := bagFullRow.holds Tryz.pinned (OpenSpec.ofChange bagFullWrong)

/-- 'tributarylaw25.BagNobody': WHATEVER THE INPUT: true; the input reads as it did. -/
def bagNobodySpec : ChangeSpec := { name := "bagNobody", fn := fun _ => fun
  | [d] => { results := [.lit (.bool true)], args := [d] }
  | _ => none }
def bagNobodyRow : OpenClaim := { program := "ytmielecljgfnaaagreat", sum := "de5b03835202531bf821bc6277d46ee8f580c7f221e91b539097d9aa9fe6bb3a", func := "tributary/tributarylaw25.BagNobody", spec := "bagNobody", inPlace := ["internal/bytealg.IndexByteString", "internal/bytealg.IndexString", "internal/bytealg.abigen_runtime_cmpstring"], unfollowed := true, recurses := true, named := ["internal/bytealg.MaxLen"], loops := true, apart := false }
def BagNobodySaid : Prop := bagNobodyRow.holds Tryz.pinned (OpenSpec.ofChange bagNobodySpec)

/-- ITS FALSE NEIGHBOUR: 'it returns false'. Refute it at one input. -/
def bagNobodyWrong : ChangeSpec := { name := "bagNobody", fn := fun _ => fun
  | [d] => { results := [.lit (.bool false)], args := [d] }
  | _ => none }
def BagNobodyWrongFalsely : Prop := bagNobodyRow.holds Tryz.pinned (OpenSpec.ofChange bagNobodyWrong)

/-- 'tributarylaw22.MsgChecks': WHATEVER THE INPUT: true; the input reads as it did. -/
def msgChecksSpec : ChangeSpec := { name := "msgChecks", fn := fun _ => fun
  | [d] => { results := [.lit (.bool true)], args := [d] }
  | _ => none }
def msgChecksRow : OpenClaim := { program := "ytmielecljgfnaaagreat", sum := "de5b03835202531bf821bc6277d46ee8f580c7f221e91b539097d9aa9fe6bb3a", func := "tributary/tributarylaw22.MsgChecks", spec := "msgChecks", inPlace := ["internal/bytealg.IndexByteString", "internal/bytealg.IndexString", "internal/bytealg.abigen_runtime_cmpstring"], unfollowed := true, recurses := true, named := ["internal/bytealg.MaxLen"], loops := true, apart := false }
def MsgChecksSaid : Prop := msgChecksRow.holds Tryz.pinned (OpenSpec.ofChange msgChecksSpec)

/-- ITS FALSE NEIGHBOUR: 'it returns false'. Refute it at one input. -/
def msgChecksWrong : ChangeSpec := { name := "msgChecks", fn := fun _ => fun
  | [d] => { results := [.lit (.bool false)], args := [d] }
  | _ => none }
def MsgChecksWrongFalsely : Prop := msgChecksRow.holds Tryz.pinned (OpenSpec.ofChange msgChecksWrong)

/-- 'tributarylaw22.MsgCodes': WHATEVER THE INPUT: true; the input reads as it did. -/
def msgCodesSpec : ChangeSpec := { name := "msgCodes", fn := fun _ => fun
  | [d] => { results := [.lit (.bool true)], args := [d] }
  | _ => none }
def msgCodesRow : OpenClaim := { program := "ytmielecljgfnaaagreat", sum := "de5b03835202531bf821bc6277d46ee8f580c7f221e91b539097d9aa9fe6bb3a", func := "tributary/tributarylaw22.MsgCodes", spec := "msgCodes", inPlace := ["internal/bytealg.IndexByteString", "internal/bytealg.IndexString", "internal/bytealg.abigen_runtime_cmpstring"], unfollowed := true, recurses := true, named := ["internal/bytealg.MaxLen"], loops := true, apart := false }
def MsgCodesSaid : Prop := msgCodesRow.holds Tryz.pinned (OpenSpec.ofChange msgCodesSpec)

/-- ITS FALSE NEIGHBOUR: 'it returns false'. Refute it at one input. -/
def msgCodesWrong : ChangeSpec := { name := "msgCodes", fn := fun _ => fun
  | [d] => { results := [.lit (.bool false)], args := [d] }
  | _ => none }
def MsgCodesWrongFalsely : Prop := msgCodesRow.holds Tryz.pinned (OpenSpec.ofChange msgCodesWrong)

/-- 'tributarylaw22.MsgDecodes': WHATEVER THE INPUT: true; the input reads as it did. -/
def msgDecodesSpec : ChangeSpec := { name := "msgDecodes", fn := fun _ => fun
  | [d] => { results := [.lit (.bool true)], args := [d] }
  | _ => none }
def msgDecodesRow : OpenClaim := { program := "ytmielecljgfnaaagreat", sum := "de5b03835202531bf821bc6277d46ee8f580c7f221e91b539097d9aa9fe6bb3a", func := "tributary/tributarylaw22.MsgDecodes", spec := "msgDecodes", inPlace := ["internal/bytealg.IndexByteString", "internal/bytealg.IndexString", "internal/bytealg.abigen_runtime_cmpstring"], unfollowed := true, recurses := true, named := ["internal/bytealg.MaxLen"], apart := false }
def MsgDecodesSaid : Prop := msgDecodesRow.holds Tryz.pinned (OpenSpec.ofChange msgDecodesSpec)

/-- ITS FALSE NEIGHBOUR: 'it returns false'. Refute it at one input. -/
def msgDecodesWrong : ChangeSpec := { name := "msgDecodes", fn := fun _ => fun
  | [d] => { results := [.lit (.bool false)], args := [d] }
  | _ => none }
def MsgDecodesWrongFalsely : Prop := msgDecodesRow.holds Tryz.pinned (OpenSpec.ofChange msgDecodesWrong)

/-- 'tributarylaw22.MsgSames': WHATEVER THE INPUT: true; the input reads as it did. -/
def msgSamesSpec : ChangeSpec := { name := "msgSames", fn := fun _ => fun
  | [d1, d2] => { results := [.lit (.bool true)], args := [d1, d2] }
  | _ => none }
def msgSamesRow : OpenClaim := { program := "ytmielecljgfnaaagreat", sum := "de5b03835202531bf821bc6277d46ee8f580c7f221e91b539097d9aa9fe6bb3a", func := "tributary/tributarylaw22.MsgSames", spec := "msgSames", inPlace := ["internal/bytealg.IndexByteString", "internal/bytealg.IndexString", "internal/bytealg.abigen_runtime_cmpstring"], unfollowed := true, recurses := true, named := ["internal/bytealg.MaxLen"], loops := true, apart := false }
def MsgSamesSaid : Prop := msgSamesRow.holds Tryz.pinned (OpenSpec.ofChange msgSamesSpec)

/-- ITS FALSE NEIGHBOUR: 'it returns false'. Refute it at one input. -/
def msgSamesWrong : ChangeSpec := { name := "msgSames", fn := fun _ => fun
  | [d1, d2] => { results := [.lit (.bool false)], args := [d1, d2] }
  | _ => none }
def MsgSamesWrongFalsely : Prop := msgSamesRow.holds Tryz.pinned (OpenSpec.ofChange msgSamesWrong)

/-- 'tributarylaw21.CursorNobody': WHATEVER THE INPUT: true; the input reads as it did. -/
def cursorNobodySpec : ChangeSpec := { name := "cursorNobody", fn := fun _ => fun
  | [d1, d2] => { results := [.lit (.bool true)], args := [d1, d2] }
  | _ => none }
def cursorNobodyRow : OpenClaim := { program := "ytmielecljgfnaaagreat", sum := "de5b03835202531bf821bc6277d46ee8f580c7f221e91b539097d9aa9fe6bb3a", func := "tributary/tributarylaw21.CursorNobody", spec := "cursorNobody", inPlace := ["internal/bytealg.IndexByteString", "internal/bytealg.IndexString", "internal/bytealg.abigen_runtime_cmpstring"], unfollowed := true, recurses := true, named := ["internal/bytealg.MaxLen"], loops := true, apart := false }
def CursorNobodySaid : Prop := cursorNobodyRow.holds Tryz.pinned (OpenSpec.ofChange cursorNobodySpec)

/-- ITS FALSE NEIGHBOUR: 'it returns false'. Refute it at one input. -/
def cursorNobodyWrong : ChangeSpec := { name := "cursorNobody", fn := fun _ => fun
  | [d1, d2] => { results := [.lit (.bool false)], args := [d1, d2] }
  | _ => none }
def CursorNobodyWrongFalsely : Prop := cursorNobodyRow.holds Tryz.pinned (OpenSpec.ofChange cursorNobodyWrong)

/-- 'tributarylaw20.EventMakes': WHATEVER THE INPUT: true; the input reads as it did. -/
def eventMakesSpec : ChangeSpec := { name := "eventMakes", fn := fun _ => fun
  | [d1, d2, d3, d4] => { results := [.lit (.bool true)], args := [d1, d2, d3, d4] }
  | _ => none }
def eventMakesRow : OpenClaim := { program := "ytmielecljgfnaaagreat", sum := "de5b03835202531bf821bc6277d46ee8f580c7f221e91b539097d9aa9fe6bb3a", func := "tributary/tributarylaw20.EventMakes", spec := "eventMakes", inPlace := ["internal/bytealg.IndexByteString", "internal/bytealg.IndexString", "internal/bytealg.abigen_runtime_cmpstring", "slices.overlaps[tributary/coll.doc]"], unfollowed := true, recurses := true, named := ["internal/bytealg.MaxLen"], loops := true, apart := false }
def EventMakesSaid : Prop := eventMakesRow.holds Tryz.pinned (OpenSpec.ofChange eventMakesSpec)

/-- ITS FALSE NEIGHBOUR: 'it returns false'. Refute it at one input. -/
def eventMakesWrong : ChangeSpec := { name := "eventMakes", fn := fun _ => fun
  | [d1, d2, d3, d4] => { results := [.lit (.bool false)], args := [d1, d2, d3, d4] }
  | _ => none }
def EventMakesWrongFalsely : Prop := eventMakesRow.holds Tryz.pinned (OpenSpec.ofChange eventMakesWrong)

/-- 'tributarylaw20.EventEnds': WHATEVER THE INPUT: true; the input reads as it did. -/
def eventEndsSpec : ChangeSpec := { name := "eventEnds", fn := fun _ => fun
  | [d1, d2, d3] => { results := [.lit (.bool true)], args := [d1, d2, d3] }
  | _ => none }
def eventEndsRow : OpenClaim := { program := "ytmielecljgfnaaagreat", sum := "de5b03835202531bf821bc6277d46ee8f580c7f221e91b539097d9aa9fe6bb3a", func := "tributary/tributarylaw20.EventEnds", spec := "eventEnds", inPlace := ["internal/bytealg.IndexByteString", "internal/bytealg.IndexString", "internal/bytealg.abigen_runtime_cmpstring", "slices.overlaps[tributary/coll.doc]"], unfollowed := true, recurses := true, named := ["internal/bytealg.MaxLen"], apart := false }
def EventEndsSaid : Prop := eventEndsRow.holds Tryz.pinned (OpenSpec.ofChange eventEndsSpec)

/-- ITS FALSE NEIGHBOUR: 'it returns false'. Refute it at one input. -/
def eventEndsWrong : ChangeSpec := { name := "eventEnds", fn := fun _ => fun
  | [d1, d2, d3] => { results := [.lit (.bool false)], args := [d1, d2, d3] }
  | _ => none }
def EventEndsWrongFalsely : Prop := eventEndsRow.holds Tryz.pinned (OpenSpec.ofChange eventEndsWrong)

/- THE SECOND FORM. 'bulk': how many values and letters a reading holds, each counted each time it is reached (what is shared counts as often as it is met; a slice's spare places count too). A statement '..UptoSaid' is the law's where the arguments, and the package variables that the reading takes, are together of bulk at most 1048576: NARROWER than '..Said'. Prove '..Said' where nothing that the law and all that it calls make is longer than what came in: it says more and counts as full. Else prove '..UptoSaid'. A law counts once. -/
mutual
def uptoBulk {H : Type} : DataW H → Nat
  | .lit (.string bytes) => bytes.length + 1
  | .lit _ => 1
  | .nil => 1
  | .ptr d => uptoBulk d + 1
  | .slice elems spare => uptoBulkAll elems + uptoBulkAll spare + 1
  | .agg parts => uptoBulkAll parts + 1
  | .iface _ d => uptoBulk d + 1
  | .map entries => uptoBulkEntries entries + 1
  | .held _ => 1
def uptoBulkAll {H : Type} : List (DataW H) → Nat
  | [] => 0
  | d :: r => uptoBulk d + uptoBulkAll r
def uptoBulkEntries {H : Type} : List (Lit × DataW H) → Nat
  | [] => 0
  | x :: r => uptoBulkEntry x + uptoBulkEntries r
def uptoBulkEntry {H : Type} : Lit × DataW H → Nat
  | (.string bytes, d) => bytes.length + uptoBulk d + 1
  | (_, d) => uptoBulk d + 1
 end
def uptoSmall : (H : Type) → List (DataW H) → Bool := fun _ ds => decide (uptoBulkAll ds ≤ 1048576)
def OpenSpec.upto (s : _root_.Go.ChangeSpec) : _root_.Go.OpenSpec := { _root_.Go.OpenSpec.ofChange s with cond := some uptoSmall }

/-- 'tributarylaw25.BagFull', WHERE WHAT IT READS IS OF BULK AT MOST 1048576: true; the input reads as it did. -/
def bagFullUptoRow : OpenClaim := { program := "ytmielecljgfnaaagreat", sum := "de5b03835202531bf821bc6277d46ee8f580c7f221e91b539097d9aa9fe6bb3a", func := "tributary/tributarylaw25.BagFull", spec := "bagFull", inPlace := ["internal/bytealg.IndexByteString", "internal/bytealg.IndexString", "internal/bytealg.abigen_runtime_cmpstring"], unfollowed := true, recurses := true, named := ["internal/bytealg.MaxLen"], apart := false, narrowed := true }
def BagFullUptoSaid : Prop := bagFullUptoRow.holds Tryz.pinned (OpenSpec.upto bagFullSpec)

/-- 'tributarylaw25.BagNobody', WHERE WHAT IT READS IS OF BULK AT MOST 1048576: true; the input reads as it did. -/
def bagNobodyUptoRow : OpenClaim := { program := "ytmielecljgfnaaagreat", sum := "de5b03835202531bf821bc6277d46ee8f580c7f221e91b539097d9aa9fe6bb3a", func := "tributary/tributarylaw25.BagNobody", spec := "bagNobody", inPlace := ["internal/bytealg.IndexByteString", "internal/bytealg.IndexString", "internal/bytealg.abigen_runtime_cmpstring"], unfollowed := true, recurses := true, named := ["internal/bytealg.MaxLen"], loops := true, apart := false, narrowed := true }
def BagNobodyUptoSaid : Prop := bagNobodyUptoRow.holds Tryz.pinned (OpenSpec.upto bagNobodySpec)

/-- 'tributarylaw22.MsgChecks', WHERE WHAT IT READS IS OF BULK AT MOST 1048576: true; the input reads as it did. -/
def msgChecksUptoRow : OpenClaim := { program := "ytmielecljgfnaaagreat", sum := "de5b03835202531bf821bc6277d46ee8f580c7f221e91b539097d9aa9fe6bb3a", func := "tributary/tributarylaw22.MsgChecks", spec := "msgChecks", inPlace := ["internal/bytealg.IndexByteString", "internal/bytealg.IndexString", "internal/bytealg.abigen_runtime_cmpstring"], unfollowed := true, recurses := true, named := ["internal/bytealg.MaxLen"], loops := true, apart := false, narrowed := true }
def MsgChecksUptoSaid : Prop := msgChecksUptoRow.holds Tryz.pinned (OpenSpec.upto msgChecksSpec)

/-- 'tributarylaw22.MsgCodes', WHERE WHAT IT READS IS OF BULK AT MOST 1048576: true; the input reads as it did. -/
def msgCodesUptoRow : OpenClaim := { program := "ytmielecljgfnaaagreat", sum := "de5b03835202531bf821bc6277d46ee8f580c7f221e91b539097d9aa9fe6bb3a", func := "tributary/tributarylaw22.MsgCodes", spec := "msgCodes", inPlace := ["internal/bytealg.IndexByteString", "internal/bytealg.IndexString", "internal/bytealg.abigen_runtime_cmpstring"], unfollowed := true, recurses := true, named := ["internal/bytealg.MaxLen"], loops := true, apart := false, narrowed := true }
def MsgCodesUptoSaid : Prop := msgCodesUptoRow.holds Tryz.pinned (OpenSpec.upto msgCodesSpec)

/-- 'tributarylaw22.MsgDecodes', WHERE WHAT IT READS IS OF BULK AT MOST 1048576: true; the input reads as it did. -/
def msgDecodesUptoRow : OpenClaim := { program := "ytmielecljgfnaaagreat", sum := "de5b03835202531bf821bc6277d46ee8f580c7f221e91b539097d9aa9fe6bb3a", func := "tributary/tributarylaw22.MsgDecodes", spec := "msgDecodes", inPlace := ["internal/bytealg.IndexByteString", "internal/bytealg.IndexString", "internal/bytealg.abigen_runtime_cmpstring"], unfollowed := true, recurses := true, named := ["internal/bytealg.MaxLen"], apart := false, narrowed := true }
def MsgDecodesUptoSaid : Prop := msgDecodesUptoRow.holds Tryz.pinned (OpenSpec.upto msgDecodesSpec)

/-- 'tributarylaw22.MsgSames', WHERE WHAT IT READS IS OF BULK AT MOST 1048576: true; the input reads as it did. -/
def msgSamesUptoRow : OpenClaim := { program := "ytmielecljgfnaaagreat", sum := "de5b03835202531bf821bc6277d46ee8f580c7f221e91b539097d9aa9fe6bb3a", func := "tributary/tributarylaw22.MsgSames", spec := "msgSames", inPlace := ["internal/bytealg.IndexByteString", "internal/bytealg.IndexString", "internal/bytealg.abigen_runtime_cmpstring"], unfollowed := true, recurses := true, named := ["internal/bytealg.MaxLen"], loops := true, apart := false, narrowed := true }
def MsgSamesUptoSaid : Prop := msgSamesUptoRow.holds Tryz.pinned (OpenSpec.upto msgSamesSpec)

/-- 'tributarylaw21.CursorNobody', WHERE WHAT IT READS IS OF BULK AT MOST 1048576: true; the input reads as it did. -/
def cursorNobodyUptoRow : OpenClaim := { program := "ytmielecljgfnaaagreat", sum := "de5b03835202531bf821bc6277d46ee8f580c7f221e91b539097d9aa9fe6bb3a", func := "tributary/tributarylaw21.CursorNobody", spec := "cursorNobody", inPlace := ["internal/bytealg.IndexByteString", "internal/bytealg.IndexString", "internal/bytealg.abigen_runtime_cmpstring"], unfollowed := true, recurses := true, named := ["internal/bytealg.MaxLen"], loops := true, apart := false, narrowed := true }
def CursorNobodyUptoSaid : Prop := cursorNobodyUptoRow.holds Tryz.pinned (OpenSpec.upto cursorNobodySpec)

/-- 'tributarylaw20.EventMakes', WHERE WHAT IT READS IS OF BULK AT MOST 1048576: true; the input reads as it did. -/
def eventMakesUptoRow : OpenClaim := { program := "ytmielecljgfnaaagreat", sum := "de5b03835202531bf821bc6277d46ee8f580c7f221e91b539097d9aa9fe6bb3a", func := "tributary/tributarylaw20.EventMakes", spec := "eventMakes", inPlace := ["internal/bytealg.IndexByteString", "internal/bytealg.IndexString", "internal/bytealg.abigen_runtime_cmpstring", "slices.overlaps[tributary/coll.doc]"], unfollowed := true, recurses := true, named := ["internal/bytealg.MaxLen"], loops := true, apart := false, narrowed := true }
def EventMakesUptoSaid : Prop := eventMakesUptoRow.holds Tryz.pinned (OpenSpec.upto eventMakesSpec)

/-- 'tributarylaw20.EventEnds', WHERE WHAT IT READS IS OF BULK AT MOST 1048576: true; the input reads as it did. -/
def eventEndsUptoRow : OpenClaim := { program := "ytmielecljgfnaaagreat", sum := "de5b03835202531bf821bc6277d46ee8f580c7f221e91b539097d9aa9fe6bb3a", func := "tributary/tributarylaw20.EventEnds", spec := "eventEnds", inPlace := ["internal/bytealg.IndexByteString", "internal/bytealg.IndexString", "internal/bytealg.abigen_runtime_cmpstring", "slices.overlaps[tributary/coll.doc]"], unfollowed := true, recurses := true, named := ["internal/bytealg.MaxLen"], apart := false, narrowed := true }
def EventEndsUptoSaid : Prop := eventEndsUptoRow.holds Tryz.pinned (OpenSpec.upto eventEndsSpec)

end Rows
end Go.Proofs.YtmielecljgfnaaaGreat
