/-
  NARROWER THAN 'FOR EVERY INPUT', by the rows' own cells (each row's printed sentence says how): BadExtras: laid · BadReads: laid · BadOthers: laid · BadFixed: laid · BadVerbs: laid · BadBack: laid.
  DERIVED. THE GIVEN ROWS OF THIS SEAT. 6 by the template 'for every input the law returns true; each argument reads behind the call as it read before'; 0 by the template 'total and deterministic' (their statements: YtiaocdbgcjnceaaDoorTotals.lean).
  GIVEN WITH THE SEED: the statements are not yours to turn. If you find one false, say at which input.
  Laid BY PROGRAM, IN A SANDBOX (cutbox-rows.mjs): the forced cells as the released guide's own fill.sh prints them over the translation 977970151430861e… (all of the seat's roots in one cut). By AI agents, Wed Nov 11 2026. No macro, syntax, notation, axiom, sorry.
-/
import Derived.Test.YtiaocdbgcjnceaaDoorChecked
import GoSem.PinnedTables
import GoSem.Claim
import GoSem.ClaimJoined
import GoSem.ClaimMapViews
import Derived.JoinedTies
import Derived.KernelRfl
namespace Go.Proofs.YtiaocdbgcjnceaaDoor
/- THE CELL 'sum', in the pinned program and in every row, IS THE sha256 OF THE DUMP (.gsa) THAT YtiaocdbgcjnceaaDoorProg.lean LOADS. Nothing in Lean hashes anything: it is a label: what it is worth is what the hold of that sum in a sandbox is worth. -/
noncomputable def Tryd.pinned : Pinned := { name := "ytiaocdbgcjnceaadoor", sum := "977970151430861e4281691042121df1374d56d1b0b211020d884f82339cf950", checked := Tryd.checked }
namespace Rows
def none {H : Type} : Left H := { results := [], args := [] }

/- WHAT THE LISTED PACKAGE-LEVEL VARIABLES READ AS WHEN THE CALL BEGINS. Each datum BY PROGRAM (the guide's laid-datum.mjs) off the statement by which the dump's own 'gosem.cut.vars' lays the variable. In a bare row this is a premise. The card (YtiaocdbgcjnceaaDoorCards.lean) ties it to the program's text. -/
def laid_unicode_utf8_acceptRanges {H : Type} : DataW H := .agg [.agg [.lit (.int .u8 128), .lit (.int .u8 191)], .agg [.lit (.int .u8 160), .lit (.int .u8 191)], .agg [.lit (.int .u8 128), .lit (.int .u8 159)], .agg [.lit (.int .u8 144), .lit (.int .u8 191)], .agg [.lit (.int .u8 128), .lit (.int .u8 143)], .agg [.lit (.int .u8 0), .lit (.int .u8 0)], .agg [.lit (.int .u8 0), .lit (.int .u8 0)], .agg [.lit (.int .u8 0), .lit (.int .u8 0)], .agg [.lit (.int .u8 0), .lit (.int .u8 0)], .agg [.lit (.int .u8 0), .lit (.int .u8 0)], .agg [.lit (.int .u8 0), .lit (.int .u8 0)], .agg [.lit (.int .u8 0), .lit (.int .u8 0)], .agg [.lit (.int .u8 0), .lit (.int .u8 0)], .agg [.lit (.int .u8 0), .lit (.int .u8 0)], .agg [.lit (.int .u8 0), .lit (.int .u8 0)], .agg [.lit (.int .u8 0), .lit (.int .u8 0)]]
/-- One of Go's own tables, pinned by name: the form's constant. -/
def laid_unicode_utf8_first : DataW Unit := Go.Pinned.utf8First

/-- 'platenlaw10.BadExtras': WHATEVER THE INPUT: true; the input reads as it did. -/
def badExtrasSpec : ChangeSpec := { name := "badExtras", fn := fun _ => fun
  | [d1, d2] => { results := [.lit (.bool true)], args := [d1, d2] }
  | _ => none }
def badExtrasRow : OpenClaim := { program := "ytiaocdbgcjnceaadoor", sum := "977970151430861e4281691042121df1374d56d1b0b211020d884f82339cf950", func := "platen/platenlaw10.BadExtras", spec := "badExtras", inPlace := ["internal/abi.NoEscape", "internal/bytealg.MakeNoZero", "internal/bytealg.IndexByteString", "internal/bytealg.IndexString"], named := ["unicode/utf8.first", "unicode/utf8.acceptRanges", "internal/bytealg.MaxLen"], apart := false, laid := [("unicode/utf8.acceptRanges", laid_unicode_utf8_acceptRanges), ("unicode/utf8.first", laid_unicode_utf8_first)] }
def BadExtrasSaid : Prop := badExtrasRow.holds Tryd.pinned (OpenSpec.ofChange badExtrasSpec)

/-- ITS FALSE NEIGHBOUR: 'it returns false'. Refute it at one input. -/
def badExtrasWrong : ChangeSpec := { name := "badExtras", fn := fun _ => fun
  | [d1, d2] => { results := [.lit (.bool false)], args := [d1, d2] }
  | _ => none }
def BadExtrasWrongFalsely : Prop := badExtrasRow.holds Tryd.pinned (OpenSpec.ofChange badExtrasWrong)

/-- 'platenlaw10.BadReads': WHATEVER THE INPUT: true; the input reads as it did. -/
def badReadsSpec : ChangeSpec := { name := "badReads", fn := fun _ => fun
  | [d] => { results := [.lit (.bool true)], args := [d] }
  | _ => none }
def badReadsRow : OpenClaim := { program := "ytiaocdbgcjnceaadoor", sum := "977970151430861e4281691042121df1374d56d1b0b211020d884f82339cf950", func := "platen/platenlaw10.BadReads", spec := "badReads", inPlace := ["internal/bytealg.IndexByteString", "internal/bytealg.IndexString", "internal/abi.NoEscape", "internal/bytealg.MakeNoZero"], named := ["unicode/utf8.first", "unicode/utf8.acceptRanges", "internal/bytealg.MaxLen"], apart := false, laid := [("unicode/utf8.acceptRanges", laid_unicode_utf8_acceptRanges), ("unicode/utf8.first", laid_unicode_utf8_first)] }
def BadReadsSaid : Prop := badReadsRow.holds Tryd.pinned (OpenSpec.ofChange badReadsSpec)

/-- ITS FALSE NEIGHBOUR: 'it returns false'. Refute it at one input. -/
def badReadsWrong : ChangeSpec := { name := "badReads", fn := fun _ => fun
  | [d] => { results := [.lit (.bool false)], args := [d] }
  | _ => none }
def BadReadsWrongFalsely : Prop := badReadsRow.holds Tryd.pinned (OpenSpec.ofChange badReadsWrong)

/-- 'platenlaw10.BadOthers': WHATEVER THE INPUT: true; the input reads as it did. -/
def badOthersSpec : ChangeSpec := { name := "badOthers", fn := fun _ => fun
  | [d1, d2, d3] => { results := [.lit (.bool true)], args := [d1, d2, d3] }
  | _ => none }
def badOthersRow : OpenClaim := { program := "ytiaocdbgcjnceaadoor", sum := "977970151430861e4281691042121df1374d56d1b0b211020d884f82339cf950", func := "platen/platenlaw10.BadOthers", spec := "badOthers", inPlace := ["internal/abi.NoEscape", "internal/bytealg.MakeNoZero", "internal/bytealg.IndexByteString", "internal/bytealg.IndexString"], named := ["unicode/utf8.first", "unicode/utf8.acceptRanges", "internal/bytealg.MaxLen"], apart := false, laid := [("unicode/utf8.acceptRanges", laid_unicode_utf8_acceptRanges), ("unicode/utf8.first", laid_unicode_utf8_first)] }
def BadOthersSaid : Prop := badOthersRow.holds Tryd.pinned (OpenSpec.ofChange badOthersSpec)

/-- ITS FALSE NEIGHBOUR: 'it returns false'. Refute it at one input. -/
def badOthersWrong : ChangeSpec := { name := "badOthers", fn := fun _ => fun
  | [d1, d2, d3] => { results := [.lit (.bool false)], args := [d1, d2, d3] }
  | _ => none }
def BadOthersWrongFalsely : Prop := badOthersRow.holds Tryd.pinned (OpenSpec.ofChange badOthersWrong)

/-- 'platenlaw10.BadFixed': WHATEVER THE INPUT: true; the input reads as it did. -/
def badFixedSpec : ChangeSpec := { name := "badFixed", fn := fun _ => fun
  | [d] => { results := [.lit (.bool true)], args := [d] }
  | _ => none }
def badFixedRow : OpenClaim := { program := "ytiaocdbgcjnceaadoor", sum := "977970151430861e4281691042121df1374d56d1b0b211020d884f82339cf950", func := "platen/platenlaw10.BadFixed", spec := "badFixed", inPlace := ["internal/abi.NoEscape", "internal/bytealg.MakeNoZero", "internal/bytealg.IndexByteString", "internal/bytealg.IndexString"], named := ["unicode/utf8.first", "unicode/utf8.acceptRanges", "internal/bytealg.MaxLen"], apart := false, laid := [("unicode/utf8.acceptRanges", laid_unicode_utf8_acceptRanges), ("unicode/utf8.first", laid_unicode_utf8_first)] }
def BadFixedSaid : Prop := badFixedRow.holds Tryd.pinned (OpenSpec.ofChange badFixedSpec)

/-- ITS FALSE NEIGHBOUR: 'it returns false'. Refute it at one input. -/
def badFixedWrong : ChangeSpec := { name := "badFixed", fn := fun _ => fun
  | [d] => { results := [.lit (.bool false)], args := [d] }
  | _ => none }
def BadFixedWrongFalsely : Prop := badFixedRow.holds Tryd.pinned (OpenSpec.ofChange badFixedWrong)

/-- 'platenlaw10.BadVerbs': WHATEVER THE INPUT: true; the input reads as it did. -/
def badVerbsSpec : ChangeSpec := { name := "badVerbs", fn := fun _ => fun
  | [d1, d2, d3] => { results := [.lit (.bool true)], args := [d1, d2, d3] }
  | _ => none }
def badVerbsRow : OpenClaim := { program := "ytiaocdbgcjnceaadoor", sum := "977970151430861e4281691042121df1374d56d1b0b211020d884f82339cf950", func := "platen/platenlaw10.BadVerbs", spec := "badVerbs", inPlace := ["internal/abi.NoEscape", "internal/bytealg.MakeNoZero", "internal/bytealg.IndexByteString", "internal/bytealg.IndexString"], named := ["unicode/utf8.first", "unicode/utf8.acceptRanges", "internal/bytealg.MaxLen"], apart := false, laid := [("unicode/utf8.acceptRanges", laid_unicode_utf8_acceptRanges), ("unicode/utf8.first", laid_unicode_utf8_first)] }
def BadVerbsSaid : Prop := badVerbsRow.holds Tryd.pinned (OpenSpec.ofChange badVerbsSpec)

/-- ITS FALSE NEIGHBOUR: 'it returns false'. Refute it at one input. -/
def badVerbsWrong : ChangeSpec := { name := "badVerbs", fn := fun _ => fun
  | [d1, d2, d3] => { results := [.lit (.bool false)], args := [d1, d2, d3] }
  | _ => none }
def BadVerbsWrongFalsely : Prop := badVerbsRow.holds Tryd.pinned (OpenSpec.ofChange badVerbsWrong)

/-- 'platenlaw10.BadBack': WHATEVER THE INPUT: true; the input reads as it did. -/
def badBackSpec : ChangeSpec := { name := "badBack", fn := fun _ => fun
  | [d1, d2, d3] => { results := [.lit (.bool true)], args := [d1, d2, d3] }
  | _ => none }
def badBackRow : OpenClaim := { program := "ytiaocdbgcjnceaadoor", sum := "977970151430861e4281691042121df1374d56d1b0b211020d884f82339cf950", func := "platen/platenlaw10.BadBack", spec := "badBack", inPlace := ["internal/abi.NoEscape", "internal/bytealg.MakeNoZero", "internal/bytealg.IndexByteString", "internal/bytealg.IndexString"], named := ["unicode/utf8.first", "unicode/utf8.acceptRanges", "internal/bytealg.MaxLen"], apart := false, laid := [("unicode/utf8.acceptRanges", laid_unicode_utf8_acceptRanges), ("unicode/utf8.first", laid_unicode_utf8_first)] }
def BadBackSaid : Prop := badBackRow.holds Tryd.pinned (OpenSpec.ofChange badBackSpec)

/-- ITS FALSE NEIGHBOUR: 'it returns false'. Refute it at one input. -/
def badBackWrong : ChangeSpec := { name := "badBack", fn := fun _ => fun
  | [d1, d2, d3] => { results := [.lit (.bool false)], args := [d1, d2, d3] }
  | _ => none }
def BadBackWrongFalsely : Prop := badBackRow.holds Tryd.pinned (OpenSpec.ofChange badBackWrong)

/- THE SECOND FORM. 'bulk': how many values and letters a reading holds, each counted each time it is reached (what is shared counts as often as it is met; a slice's spare places count too). A statement '..UptoSaid' is the law's where the arguments, and the package variables that the reading takes, are together of bulk at most 1048576: NARROWER than '..Said'. Prove '..Said' where nothing that the law and all that it calls make is longer than what came in: it says more and counts as full. Else prove '..UptoSaid'. A law counts once. -/
mutual
def uptoBulk {H : Type} : DataW H → Nat
  | .lit (.string bytes) => bytes.length + 1
  | .lit _ => 1
  | .nil => 1
  | .ptr d => uptoBulk d + 1
  | .slice elems spare => uptoBulkAll elems + uptoBulkAll spare + 1
  | .agg parts => uptoBulkAll parts + 1
  | .iface _ d => uptoBulk d + 1
  | .map entries => uptoBulkEntries entries + 1
  | .held _ => 1
def uptoBulkAll {H : Type} : List (DataW H) → Nat
  | [] => 0
  | d :: r => uptoBulk d + uptoBulkAll r
def uptoBulkEntries {H : Type} : List (Lit × DataW H) → Nat
  | [] => 0
  | x :: r => uptoBulkEntry x + uptoBulkEntries r
def uptoBulkEntry {H : Type} : Lit × DataW H → Nat
  | (.string bytes, d) => bytes.length + uptoBulk d + 1
  | (_, d) => uptoBulk d + 1
 end
def uptoSmall : (H : Type) → List (DataW H) → Bool := fun _ ds => decide (uptoBulkAll ds ≤ 1048576)
def OpenSpec.upto (s : _root_.Go.ChangeSpec) : _root_.Go.OpenSpec := { _root_.Go.OpenSpec.ofChange s with cond := some uptoSmall }

/-- 'platenlaw10.BadExtras', WHERE WHAT IT READS IS OF BULK AT MOST 1048576: true; the input reads as it did. -/
def badExtrasUptoRow : OpenClaim := { program := "ytiaocdbgcjnceaadoor", sum := "977970151430861e4281691042121df1374d56d1b0b211020d884f82339cf950", func := "platen/platenlaw10.BadExtras", spec := "badExtras", inPlace := ["internal/abi.NoEscape", "internal/bytealg.MakeNoZero", "internal/bytealg.IndexByteString", "internal/bytealg.IndexString"], named := ["unicode/utf8.first", "unicode/utf8.acceptRanges", "internal/bytealg.MaxLen"], apart := false, laid := [("unicode/utf8.acceptRanges", laid_unicode_utf8_acceptRanges), ("unicode/utf8.first", laid_unicode_utf8_first)], narrowed := true }
def BadExtrasUptoSaid : Prop := badExtrasUptoRow.holds Tryd.pinned (OpenSpec.upto badExtrasSpec)

/-- 'platenlaw10.BadReads', WHERE WHAT IT READS IS OF BULK AT MOST 1048576: true; the input reads as it did. -/
def badReadsUptoRow : OpenClaim := { program := "ytiaocdbgcjnceaadoor", sum := "977970151430861e4281691042121df1374d56d1b0b211020d884f82339cf950", func := "platen/platenlaw10.BadReads", spec := "badReads", inPlace := ["internal/bytealg.IndexByteString", "internal/bytealg.IndexString", "internal/abi.NoEscape", "internal/bytealg.MakeNoZero"], named := ["unicode/utf8.first", "unicode/utf8.acceptRanges", "internal/bytealg.MaxLen"], apart := false, laid := [("unicode/utf8.acceptRanges", laid_unicode_utf8_acceptRanges), ("unicode/utf8.first", laid_unicode_utf8_first)], narrowed := true }
def BadReadsUptoSaid : Prop := badReadsUptoRow.holds Tryd.pinned (OpenSpec.upto badReadsSpec)

/-- 'platenlaw10.BadOthers', WHERE WHAT IT READS IS OF BULK AT MOST 1048576: true; the input reads as it did. -/
def badOthersUptoRow : OpenClaim := { program := "ytiaocdbgcjnceaadoor", sum := "977970151430861e4281691042121df1374d56d1b0b211020d884f82339cf950", func := "platen/platenlaw10.BadOthers", spec := "badOthers", inPlace := ["internal/abi.NoEscape", "internal/bytealg.MakeNoZero", "internal/bytealg.IndexByteString", "internal/bytealg.IndexString"], named := ["unicode/utf8.first", "unicode/utf8.acceptRanges", "internal/bytealg.MaxLen"], apart := false, laid := [("unicode/utf8.acceptRanges", laid_unicode_utf8_acceptRanges), ("unicode/utf8.first", laid_unicode_utf8_first)], narrowed := true }
def BadOthersUptoSaid : Prop := badOthersUptoRow.holds Tryd.pinned (OpenSpec.upto badOthersSpec)

/-- 'platenlaw10.BadFixed', WHERE WHAT IT READS IS OF BULK AT MOST 1048576: true; the input reads as it did. -/
def badFixedUptoRow : OpenClaim := { program := "ytiaocdbgcjnceaadoor", sum := "977970151430861e4281691042121df1374d56d1b0b211020d884f82339cf950", func := "platen/platenlaw10.BadFixed", spec := "badFixed", inPlace := ["internal/abi.NoEscape", "internal/bytealg.MakeNoZero", "internal/bytealg.IndexByteString", "internal/bytealg.IndexString"], named := ["unicode/utf8.first", "unicode/utf8.acceptRanges", "internal/bytealg.MaxLen"], apart := false, laid := [("unicode/utf8.acceptRanges", laid_unicode_utf8_acceptRanges), ("unicode/utf8.first", laid_unicode_utf8_first)], narrowed := true }
def BadFixedUptoSaid : Prop := badFixedUptoRow.holds Tryd.pinned (OpenSpec.upto badFixedSpec)

/-- 'platenlaw10.BadVerbs', WHERE WHAT IT READS IS OF BULK AT MOST 1048576: true; the input reads as it did. -/
def badVerbsUptoRow : OpenClaim := { program := "ytiaocdbgcjnceaadoor", sum := "977970151430861e4281691042121df1374d56d1b0b211020d884f82339cf950", func := "platen/platenlaw10.BadVerbs", spec := "badVerbs", inPlace := ["internal/abi.NoEscape", "internal/bytealg.MakeNoZero", "internal/bytealg.IndexByteString", "internal/bytealg.IndexString"], named := ["unicode/utf8.first", "unicode/utf8.acceptRanges", "internal/bytealg.MaxLen"], apart := false, laid := [("unicode/utf8.acceptRanges", laid_unicode_utf8_acceptRanges), ("unicode/utf8.first", laid_unicode_utf8_first)], narrowed := true }
def BadVerbsUptoSaid : Prop := badVerbsUptoRow.holds Tryd.pinned (OpenSpec.upto badVerbsSpec)

/-- 'platenlaw10.BadBack', WHERE WHAT IT READS IS OF BULK AT MOST 1048576: true; the input reads as it did. -/
def badBackUptoRow : OpenClaim := { program := "ytiaocdbgcjnceaadoor", sum := "977970151430861e4281691042121df1374d56d1b0b211020d884f82339cf950", func := "platen/platenlaw10.BadBack", spec := "badBack", inPlace := ["internal/abi.NoEscape", "internal/bytealg.MakeNoZero", "internal/bytealg.IndexByteString", "internal/bytealg.IndexString"], named := ["unicode/utf8.first", "unicode/utf8.acceptRanges", "internal/bytealg.MaxLen"], apart := false, laid := [("unicode/utf8.acceptRanges", laid_unicode_utf8_acceptRanges), ("unicode/utf8.first", laid_unicode_utf8_first)], narrowed := true }
def BadBackUptoSaid : Prop := badBackUptoRow.holds Tryd.pinned (OpenSpec.upto badBackSpec)

end Rows
end Go.Proofs.YtiaocdbgcjnceaaDoor
