/-
  NARROWER THAN 'FOR EVERY INPUT', by the rows' own cells (each row's printed sentence says how): QuoteReads: laid · QuoteHexes: laid · QuoteWrites: laid · QuoteBack: laid · QuoteHexBack: laid · QuoteWide: laid · QuoteChars: laid · QuoteAscii: laid.
  DERIVED. THE GIVEN ROWS OF THIS SEAT. 8 by the template 'for every input the law returns true; each argument reads behind the call as it read before'; 0 by the template 'total and deterministic' (their statements: YtcoippikicikoaaDoorTotals.lean).
  GIVEN WITH THE SEED: the statements are not yours to turn. If you find one false, say at which input.
  Laid BY PROGRAM, IN A SANDBOX (cutbox-rows.mjs): the forced cells as the released guide's own fill.sh prints them over the translation 827676c812230309… (all of the seat's roots in one cut). By AI agents, Wed Nov 11 2026. No macro, syntax, notation, axiom, sorry.
-/
import Derived.Test.YtcoippikicikoaaDoorChecked
import GoSem.PinnedTables
import GoSem.Claim
import GoSem.ClaimJoined
import GoSem.ClaimMapViews
import Derived.JoinedTies
import Derived.KernelRfl
namespace Go.Proofs.YtcoippikicikoaaDoor
/- THE CELL 'sum', in the pinned program and in every row, IS THE sha256 OF THE DUMP (.gsa) THAT YtcoippikicikoaaDoorProg.lean LOADS. Nothing in Lean hashes anything: it is a label: what it is worth is what the hold of that sum in a sandbox is worth. -/
noncomputable def Tryd.pinned : Pinned := { name := "ytcoippikicikoaadoor", sum := "827676c81223030974386cec049684edeeb46bdb3067f34a9c6dc4f470fe9550", checked := Tryd.checked }
namespace Rows
def none {H : Type} : Left H := { results := [], args := [] }

/- WHAT THE LISTED PACKAGE-LEVEL VARIABLES READ AS WHEN THE CALL BEGINS. Each datum BY PROGRAM (the guide's laid-datum.mjs) off the statement by which the dump's own 'gosem.cut.vars' lays the variable. In a bare row this is a premise. The card (YtcoippikicikoaaDoorCards.lean) ties it to the program's text. -/
def laid_unicode_utf8_acceptRanges {H : Type} : DataW H := .agg [.agg [.lit (.int .u8 128), .lit (.int .u8 191)], .agg [.lit (.int .u8 160), .lit (.int .u8 191)], .agg [.lit (.int .u8 128), .lit (.int .u8 159)], .agg [.lit (.int .u8 144), .lit (.int .u8 191)], .agg [.lit (.int .u8 128), .lit (.int .u8 143)], .agg [.lit (.int .u8 0), .lit (.int .u8 0)], .agg [.lit (.int .u8 0), .lit (.int .u8 0)], .agg [.lit (.int .u8 0), .lit (.int .u8 0)], .agg [.lit (.int .u8 0), .lit (.int .u8 0)], .agg [.lit (.int .u8 0), .lit (.int .u8 0)], .agg [.lit (.int .u8 0), .lit (.int .u8 0)], .agg [.lit (.int .u8 0), .lit (.int .u8 0)], .agg [.lit (.int .u8 0), .lit (.int .u8 0)], .agg [.lit (.int .u8 0), .lit (.int .u8 0)], .agg [.lit (.int .u8 0), .lit (.int .u8 0)], .agg [.lit (.int .u8 0), .lit (.int .u8 0)]]
/-- One of Go's own tables, pinned by name: the form's constant. -/
def laid_unicode_utf8_first : DataW Unit := Go.Pinned.utf8First

/-- 'platenlaw02.QuoteReads': WHATEVER THE INPUT: true; the input reads as it did. -/
def quoteReadsSpec : ChangeSpec := { name := "quoteReads", fn := fun _ => fun
  | [d] => { results := [.lit (.bool true)], args := [d] }
  | _ => none }
def quoteReadsRow : OpenClaim := { program := "ytcoippikicikoaadoor", sum := "827676c81223030974386cec049684edeeb46bdb3067f34a9c6dc4f470fe9550", func := "platen/platenlaw02.QuoteReads", spec := "quoteReads", inPlace := ["internal/bytealg.IndexByteString", "internal/abi.NoEscape", "internal/bytealg.MakeNoZero"], named := ["unicode/utf8.first", "unicode/utf8.acceptRanges"], apart := false, laid := [("unicode/utf8.acceptRanges", laid_unicode_utf8_acceptRanges), ("unicode/utf8.first", laid_unicode_utf8_first)] }
def QuoteReadsSaid : Prop := quoteReadsRow.holds Tryd.pinned (OpenSpec.ofChange quoteReadsSpec)

/-- ITS FALSE NEIGHBOUR: 'it returns false'. Refute it at one input. -/
def quoteReadsWrong : ChangeSpec := { name := "quoteReads", fn := fun _ => fun
  | [d] => { results := [.lit (.bool false)], args := [d] }
  | _ => none }
def QuoteReadsWrongFalsely : Prop := quoteReadsRow.holds Tryd.pinned (OpenSpec.ofChange quoteReadsWrong)

/-- 'platenlaw02.QuoteHexes': WHATEVER THE INPUT: true; the input reads as it did. -/
def quoteHexesSpec : ChangeSpec := { name := "quoteHexes", fn := fun _ => fun
  | [d1, d2] => { results := [.lit (.bool true)], args := [d1, d2] }
  | _ => none }
def quoteHexesRow : OpenClaim := { program := "ytcoippikicikoaadoor", sum := "827676c81223030974386cec049684edeeb46bdb3067f34a9c6dc4f470fe9550", func := "platen/platenlaw02.QuoteHexes", spec := "quoteHexes", inPlace := ["internal/abi.NoEscape", "internal/bytealg.MakeNoZero", "internal/bytealg.IndexByteString"], named := ["unicode/utf8.first", "unicode/utf8.acceptRanges"], apart := false, laid := [("unicode/utf8.acceptRanges", laid_unicode_utf8_acceptRanges), ("unicode/utf8.first", laid_unicode_utf8_first)] }
def QuoteHexesSaid : Prop := quoteHexesRow.holds Tryd.pinned (OpenSpec.ofChange quoteHexesSpec)

/-- ITS FALSE NEIGHBOUR: 'it returns false'. Refute it at one input. -/
def quoteHexesWrong : ChangeSpec := { name := "quoteHexes", fn := fun _ => fun
  | [d1, d2] => { results := [.lit (.bool false)], args := [d1, d2] }
  | _ => none }
def QuoteHexesWrongFalsely : Prop := quoteHexesRow.holds Tryd.pinned (OpenSpec.ofChange quoteHexesWrong)

/-- 'platenlaw02.QuoteWrites': WHATEVER THE INPUT: true; the input reads as it did. -/
def quoteWritesSpec : ChangeSpec := { name := "quoteWrites", fn := fun _ => fun
  | [d1, d2] => { results := [.lit (.bool true)], args := [d1, d2] }
  | _ => none }
def quoteWritesRow : OpenClaim := { program := "ytcoippikicikoaadoor", sum := "827676c81223030974386cec049684edeeb46bdb3067f34a9c6dc4f470fe9550", func := "platen/platenlaw02.QuoteWrites", spec := "quoteWrites", inPlace := ["internal/abi.NoEscape", "internal/bytealg.MakeNoZero", "internal/bytealg.IndexByteString"], named := ["unicode/utf8.first", "unicode/utf8.acceptRanges"], apart := false, laid := [("unicode/utf8.acceptRanges", laid_unicode_utf8_acceptRanges), ("unicode/utf8.first", laid_unicode_utf8_first)] }
def QuoteWritesSaid : Prop := quoteWritesRow.holds Tryd.pinned (OpenSpec.ofChange quoteWritesSpec)

/-- ITS FALSE NEIGHBOUR: 'it returns false'. Refute it at one input. -/
def quoteWritesWrong : ChangeSpec := { name := "quoteWrites", fn := fun _ => fun
  | [d1, d2] => { results := [.lit (.bool false)], args := [d1, d2] }
  | _ => none }
def QuoteWritesWrongFalsely : Prop := quoteWritesRow.holds Tryd.pinned (OpenSpec.ofChange quoteWritesWrong)

/-- 'platenlaw02.QuoteBack': WHATEVER THE INPUT: true; the input reads as it did. -/
def quoteBackSpec : ChangeSpec := { name := "quoteBack", fn := fun _ => fun
  | [d1, d2] => { results := [.lit (.bool true)], args := [d1, d2] }
  | _ => none }
def quoteBackRow : OpenClaim := { program := "ytcoippikicikoaadoor", sum := "827676c81223030974386cec049684edeeb46bdb3067f34a9c6dc4f470fe9550", func := "platen/platenlaw02.QuoteBack", spec := "quoteBack", inPlace := ["internal/bytealg.IndexByteString", "internal/abi.NoEscape", "internal/bytealg.MakeNoZero"], named := ["unicode/utf8.first", "unicode/utf8.acceptRanges"], apart := false, laid := [("unicode/utf8.acceptRanges", laid_unicode_utf8_acceptRanges), ("unicode/utf8.first", laid_unicode_utf8_first)] }
def QuoteBackSaid : Prop := quoteBackRow.holds Tryd.pinned (OpenSpec.ofChange quoteBackSpec)

/-- ITS FALSE NEIGHBOUR: 'it returns false'. Refute it at one input. -/
def quoteBackWrong : ChangeSpec := { name := "quoteBack", fn := fun _ => fun
  | [d1, d2] => { results := [.lit (.bool false)], args := [d1, d2] }
  | _ => none }
def QuoteBackWrongFalsely : Prop := quoteBackRow.holds Tryd.pinned (OpenSpec.ofChange quoteBackWrong)

/-- 'platenlaw02.QuoteHexBack': WHATEVER THE INPUT: true; the input reads as it did. -/
def quoteHexBackSpec : ChangeSpec := { name := "quoteHexBack", fn := fun _ => fun
  | [d1, d2] => { results := [.lit (.bool true)], args := [d1, d2] }
  | _ => none }
def quoteHexBackRow : OpenClaim := { program := "ytcoippikicikoaadoor", sum := "827676c81223030974386cec049684edeeb46bdb3067f34a9c6dc4f470fe9550", func := "platen/platenlaw02.QuoteHexBack", spec := "quoteHexBack", inPlace := ["internal/abi.NoEscape", "internal/bytealg.MakeNoZero", "internal/bytealg.IndexByteString"], named := ["unicode/utf8.first", "unicode/utf8.acceptRanges"], apart := false, laid := [("unicode/utf8.acceptRanges", laid_unicode_utf8_acceptRanges), ("unicode/utf8.first", laid_unicode_utf8_first)] }
def QuoteHexBackSaid : Prop := quoteHexBackRow.holds Tryd.pinned (OpenSpec.ofChange quoteHexBackSpec)

/-- ITS FALSE NEIGHBOUR: 'it returns false'. Refute it at one input. -/
def quoteHexBackWrong : ChangeSpec := { name := "quoteHexBack", fn := fun _ => fun
  | [d1, d2] => { results := [.lit (.bool false)], args := [d1, d2] }
  | _ => none }
def QuoteHexBackWrongFalsely : Prop := quoteHexBackRow.holds Tryd.pinned (OpenSpec.ofChange quoteHexBackWrong)

/-- 'platenlaw02.QuoteWide': WHATEVER THE INPUT: true; the input reads as it did. -/
def quoteWideSpec : ChangeSpec := { name := "quoteWide", fn := fun _ => fun
  | [d1, d2] => { results := [.lit (.bool true)], args := [d1, d2] }
  | _ => none }
def quoteWideRow : OpenClaim := { program := "ytcoippikicikoaadoor", sum := "827676c81223030974386cec049684edeeb46bdb3067f34a9c6dc4f470fe9550", func := "platen/platenlaw02.QuoteWide", spec := "quoteWide", inPlace := ["internal/abi.NoEscape", "internal/bytealg.MakeNoZero", "internal/bytealg.IndexByteString"], named := ["unicode/utf8.first", "unicode/utf8.acceptRanges"], apart := false, laid := [("unicode/utf8.acceptRanges", laid_unicode_utf8_acceptRanges), ("unicode/utf8.first", laid_unicode_utf8_first)] }
def QuoteWideSaid : Prop := quoteWideRow.holds Tryd.pinned (OpenSpec.ofChange quoteWideSpec)

/-- ITS FALSE NEIGHBOUR: 'it returns false'. Refute it at one input. -/
def quoteWideWrong : ChangeSpec := { name := "quoteWide", fn := fun _ => fun
  | [d1, d2] => { results := [.lit (.bool false)], args := [d1, d2] }
  | _ => none }
def QuoteWideWrongFalsely : Prop := quoteWideRow.holds Tryd.pinned (OpenSpec.ofChange quoteWideWrong)

/-- 'platenlaw02.QuoteChars': WHATEVER THE INPUT: true; the input reads as it did. -/
def quoteCharsSpec : ChangeSpec := { name := "quoteChars", fn := fun _ => fun
  | [d1, d2] => { results := [.lit (.bool true)], args := [d1, d2] }
  | _ => none }
def quoteCharsRow : OpenClaim := { program := "ytcoippikicikoaadoor", sum := "827676c81223030974386cec049684edeeb46bdb3067f34a9c6dc4f470fe9550", func := "platen/platenlaw02.QuoteChars", spec := "quoteChars", inPlace := ["internal/abi.NoEscape", "internal/bytealg.MakeNoZero", "internal/bytealg.IndexByteString"], named := ["unicode/utf8.first", "unicode/utf8.acceptRanges"], apart := false, laid := [("unicode/utf8.acceptRanges", laid_unicode_utf8_acceptRanges), ("unicode/utf8.first", laid_unicode_utf8_first)] }
def QuoteCharsSaid : Prop := quoteCharsRow.holds Tryd.pinned (OpenSpec.ofChange quoteCharsSpec)

/-- ITS FALSE NEIGHBOUR: 'it returns false'. Refute it at one input. -/
def quoteCharsWrong : ChangeSpec := { name := "quoteChars", fn := fun _ => fun
  | [d1, d2] => { results := [.lit (.bool false)], args := [d1, d2] }
  | _ => none }
def QuoteCharsWrongFalsely : Prop := quoteCharsRow.holds Tryd.pinned (OpenSpec.ofChange quoteCharsWrong)

/-- 'platenlaw02.QuoteAscii': WHATEVER THE INPUT: true; the input reads as it did. -/
def quoteAsciiSpec : ChangeSpec := { name := "quoteAscii", fn := fun _ => fun
  | [d1, d2] => { results := [.lit (.bool true)], args := [d1, d2] }
  | _ => none }
def quoteAsciiRow : OpenClaim := { program := "ytcoippikicikoaadoor", sum := "827676c81223030974386cec049684edeeb46bdb3067f34a9c6dc4f470fe9550", func := "platen/platenlaw02.QuoteAscii", spec := "quoteAscii", inPlace := ["internal/abi.NoEscape", "internal/bytealg.MakeNoZero", "internal/bytealg.IndexByteString"], named := ["unicode/utf8.first", "unicode/utf8.acceptRanges"], apart := false, laid := [("unicode/utf8.acceptRanges", laid_unicode_utf8_acceptRanges), ("unicode/utf8.first", laid_unicode_utf8_first)] }
def QuoteAsciiSaid : Prop := quoteAsciiRow.holds Tryd.pinned (OpenSpec.ofChange quoteAsciiSpec)

/-- ITS FALSE NEIGHBOUR: 'it returns false'. Refute it at one input. -/
def quoteAsciiWrong : ChangeSpec := { name := "quoteAscii", fn := fun _ => fun
  | [d1, d2] => { results := [.lit (.bool false)], args := [d1, d2] }
  | _ => none }
def QuoteAsciiWrongFalsely : Prop := quoteAsciiRow.holds Tryd.pinned (OpenSpec.ofChange quoteAsciiWrong)

/- THE SECOND FORM. 'bulk': how many values and letters a reading holds, each counted each time it is reached (what is shared counts as often as it is met; a slice's spare places count too). A statement '..UptoSaid' is the law's where the arguments, and the package variables that the reading takes, are together of bulk at most 1048576: NARROWER than '..Said'. Prove '..Said' where nothing that the law and all that it calls make is longer than what came in: it says more and counts as full. Else prove '..UptoSaid'. A law counts once. -/
mutual
def uptoBulk {H : Type} : DataW H → Nat
  | .lit (.string bytes) => bytes.length + 1
  | .lit _ => 1
  | .nil => 1
  | .ptr d => uptoBulk d + 1
  | .slice elems spare => uptoBulkAll elems + uptoBulkAll spare + 1
  | .agg parts => uptoBulkAll parts + 1
  | .iface _ d => uptoBulk d + 1
  | .map entries => uptoBulkEntries entries + 1
  | .held _ => 1
def uptoBulkAll {H : Type} : List (DataW H) → Nat
  | [] => 0
  | d :: r => uptoBulk d + uptoBulkAll r
def uptoBulkEntries {H : Type} : List (Lit × DataW H) → Nat
  | [] => 0
  | x :: r => uptoBulkEntry x + uptoBulkEntries r
def uptoBulkEntry {H : Type} : Lit × DataW H → Nat
  | (.string bytes, d) => bytes.length + uptoBulk d + 1
  | (_, d) => uptoBulk d + 1
 end
def uptoSmall : (H : Type) → List (DataW H) → Bool := fun _ ds => decide (uptoBulkAll ds ≤ 1048576)
def OpenSpec.upto (s : _root_.Go.ChangeSpec) : _root_.Go.OpenSpec := { _root_.Go.OpenSpec.ofChange s with cond := some uptoSmall }

/-- 'platenlaw02.QuoteReads', WHERE WHAT IT READS IS OF BULK AT MOST 1048576: true; the input reads as it did. -/
def quoteReadsUptoRow : OpenClaim := { program := "ytcoippikicikoaadoor", sum := "827676c81223030974386cec049684edeeb46bdb3067f34a9c6dc4f470fe9550", func := "platen/platenlaw02.QuoteReads", spec := "quoteReads", inPlace := ["internal/bytealg.IndexByteString", "internal/abi.NoEscape", "internal/bytealg.MakeNoZero"], named := ["unicode/utf8.first", "unicode/utf8.acceptRanges"], apart := false, laid := [("unicode/utf8.acceptRanges", laid_unicode_utf8_acceptRanges), ("unicode/utf8.first", laid_unicode_utf8_first)], narrowed := true }
def QuoteReadsUptoSaid : Prop := quoteReadsUptoRow.holds Tryd.pinned (OpenSpec.upto quoteReadsSpec)

/-- 'platenlaw02.QuoteHexes', WHERE WHAT IT READS IS OF BULK AT MOST 1048576: true; the input reads as it did. -/
def quoteHexesUptoRow : OpenClaim := { program := "ytcoippikicikoaadoor", sum := "827676c81223030974386cec049684edeeb46bdb3067f34a9c6dc4f470fe9550", func := "platen/platenlaw02.QuoteHexes", spec := "quoteHexes", inPlace := ["internal/abi.NoEscape", "internal/bytealg.MakeNoZero", "internal/bytealg.IndexByteString"], named := ["unicode/utf8.first", "unicode/utf8.acceptRanges"], apart := false, laid := [("unicode/utf8.acceptRanges", laid_unicode_utf8_acceptRanges), ("unicode/utf8.first", laid_unicode_utf8_first)], narrowed := true }
def QuoteHexesUptoSaid : Prop := quoteHexesUptoRow.holds Tryd.pinned (OpenSpec.upto quoteHexesSpec)

/-- 'platenlaw02.QuoteWrites', WHERE WHAT IT READS IS OF BULK AT MOST 1048576: true; the input reads as it did. -/
def quoteWritesUptoRow : OpenClaim := { program := "ytcoippikicikoaadoor", sum := "827676c81223030974386cec049684edeeb46bdb3067f34a9c6dc4f470fe9550", func := "platen/platenlaw02.QuoteWrites", spec := "quoteWrites", inPlace := ["internal/abi.NoEscape", "internal/bytealg.MakeNoZero", "internal/bytealg.IndexByteString"], named := ["unicode/utf8.first", "unicode/utf8.acceptRanges"], apart := false, laid := [("unicode/utf8.acceptRanges", laid_unicode_utf8_acceptRanges), ("unicode/utf8.first", laid_unicode_utf8_first)], narrowed := true }
def QuoteWritesUptoSaid : Prop := quoteWritesUptoRow.holds Tryd.pinned (OpenSpec.upto quoteWritesSpec)

/-- 'platenlaw02.QuoteBack', WHERE WHAT IT READS IS OF BULK AT MOST 1048576: true; the input reads as it did. -/
def quoteBackUptoRow : OpenClaim := { program := "ytcoippikicikoaadoor", sum := "827676c81223030974386cec049684edeeb46bdb3067f34a9c6dc4f470fe9550", func := "platen/platenlaw02.QuoteBack", spec := "quoteBack", inPlace := ["internal/bytealg.IndexByteString", "internal/abi.NoEscape", "internal/bytealg.MakeNoZero"], named := ["unicode/utf8.first", "unicode/utf8.acceptRanges"], apart := false, laid := [("unicode/utf8.acceptRanges", laid_unicode_utf8_acceptRanges), ("unicode/utf8.first", laid_unicode_utf8_first)], narrowed := true }
def QuoteBackUptoSaid : Prop := quoteBackUptoRow.holds Tryd.pinned (OpenSpec.upto quoteBackSpec)

/-- 'platenlaw02.QuoteHexBack', WHERE WHAT IT READS IS OF BULK AT MOST 1048576: true; the input reads as it did. -/
def quoteHexBackUptoRow : OpenClaim := { program := "ytcoippikicikoaadoor", sum := "827676c81223030974386cec049684edeeb46bdb3067f34a9c6dc4f470fe9550", func := "platen/platenlaw02.QuoteHexBack", spec := "quoteHexBack", inPlace := ["internal/abi.NoEscape", "internal/bytealg.MakeNoZero", "internal/bytealg.IndexByteString"], named := ["unicode/utf8.first", "unicode/utf8.acceptRanges"], apart := false, laid := [("unicode/utf8.acceptRanges", laid_unicode_utf8_acceptRanges), ("unicode/utf8.first", laid_unicode_utf8_first)], narrowed := true }
def QuoteHexBackUptoSaid : Prop := quoteHexBackUptoRow.holds Tryd.pinned (OpenSpec.upto quoteHexBackSpec)

/-- 'platenlaw02.QuoteWide', WHERE WHAT IT READS IS OF BULK AT MOST 1048576: true; the input reads as it did. -/
def quoteWideUptoRow : OpenClaim := { program := "ytcoippikicikoaadoor", sum := "827676c81223030974386cec049684edeeb46bdb3067f34a9c6dc4f470fe9550", func := "platen/platenlaw02.QuoteWide", spec := "quoteWide", inPlace := ["internal/abi.NoEscape", "internal/bytealg.MakeNoZero", "internal/bytealg.IndexByteString"], named := ["unicode/utf8.first", "unicode/utf8.acceptRanges"], apart := false, laid := [("unicode/utf8.acceptRanges", laid_unicode_utf8_acceptRanges), ("unicode/utf8.first", laid_unicode_utf8_first)], narrowed := true }
def QuoteWideUptoSaid : Prop := quoteWideUptoRow.holds Tryd.pinned (OpenSpec.upto quoteWideSpec)

/-- 'platenlaw02.QuoteChars', WHERE WHAT IT READS IS OF BULK AT MOST 1048576: true; the input reads as it did. -/
def quoteCharsUptoRow : OpenClaim := { program := "ytcoippikicikoaadoor", sum := "827676c81223030974386cec049684edeeb46bdb3067f34a9c6dc4f470fe9550", func := "platen/platenlaw02.QuoteChars", spec := "quoteChars", inPlace := ["internal/abi.NoEscape", "internal/bytealg.MakeNoZero", "internal/bytealg.IndexByteString"], named := ["unicode/utf8.first", "unicode/utf8.acceptRanges"], apart := false, laid := [("unicode/utf8.acceptRanges", laid_unicode_utf8_acceptRanges), ("unicode/utf8.first", laid_unicode_utf8_first)], narrowed := true }
def QuoteCharsUptoSaid : Prop := quoteCharsUptoRow.holds Tryd.pinned (OpenSpec.upto quoteCharsSpec)

/-- 'platenlaw02.QuoteAscii', WHERE WHAT IT READS IS OF BULK AT MOST 1048576: true; the input reads as it did. -/
def quoteAsciiUptoRow : OpenClaim := { program := "ytcoippikicikoaadoor", sum := "827676c81223030974386cec049684edeeb46bdb3067f34a9c6dc4f470fe9550", func := "platen/platenlaw02.QuoteAscii", spec := "quoteAscii", inPlace := ["internal/abi.NoEscape", "internal/bytealg.MakeNoZero", "internal/bytealg.IndexByteString"], named := ["unicode/utf8.first", "unicode/utf8.acceptRanges"], apart := false, laid := [("unicode/utf8.acceptRanges", laid_unicode_utf8_acceptRanges), ("unicode/utf8.first", laid_unicode_utf8_first)], narrowed := true }
def QuoteAsciiUptoSaid : Prop := quoteAsciiUptoRow.holds Tryd.pinned (OpenSpec.upto quoteAsciiSpec)

end Rows
end Go.Proofs.YtcoippikicikoaaDoor
