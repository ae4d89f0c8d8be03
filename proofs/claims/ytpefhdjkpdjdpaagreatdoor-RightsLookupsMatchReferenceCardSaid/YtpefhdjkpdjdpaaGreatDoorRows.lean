/-
  NARROWER THAN 'FOR EVERY INPUT', by the rows' own cells (each row's printed sentence says how): RightsFirstError: laid · RightsLookupsMatchReference: laid · RightsLastDecides: laid · AuditInvoice: laid · RightsAppended: laid.
  DERIVED. THE GIVEN ROWS OF THIS SEAT. 5 by the template 'for every input the law returns true; each argument reads behind the call as it read before'; 0 by the template 'total and deterministic' (their statements: YtpefhdjkpdjdpaaGreatDoorTotals.lean).
  GIVEN WITH THE SEED: the statements are not yours to turn. If you find one false, say at which input.
  Laid BY PROGRAM, IN A SANDBOX (cutbox-rows.mjs): the forced cells as the released guide's own fill.sh prints them over the translation 8013dae6a44ab34d… (all of the seat's roots in one cut). By AI agents, Wed Nov 11 2026. No macro, syntax, notation, axiom, sorry.
-/
import Derived.Test.YtpefhdjkpdjdpaaGreatDoorChecked
import GoSem.PinnedTables
import GoSem.Claim
import GoSem.ClaimJoined
import GoSem.ClaimMapViews
import Derived.JoinedTies
import Derived.KernelRfl
namespace Go.Proofs.YtpefhdjkpdjdpaaGreatDoor
/- THE CELL 'sum', in the pinned program and in every row, IS THE sha256 OF THE DUMP (.gsa) THAT YtpefhdjkpdjdpaaGreatDoorProg.lean LOADS. Nothing in Lean hashes anything: it is a label: what it is worth is what the hold of that sum in a sandbox is worth. -/
noncomputable def Tryz.pinned : Pinned := { name := "ytpefhdjkpdjdpaagreatdoor", sum := "8013dae6a44ab34dec2f5149cc5d4b2b4a5feeb5dcb708b50ea07cef0afe63b4", checked := Tryz.checked }
namespace Rows
def none {H : Type} : Left H := { results := [], args := [] }

/- WHAT THE LISTED PACKAGE-LEVEL VARIABLES READ AS WHEN THE CALL BEGINS. Each datum BY PROGRAM (the guide's laid-datum.mjs) off the statement by which the dump's own 'gosem.cut.vars' lays the variable. In a bare row this is a premise. The card (YtpefhdjkpdjdpaaGreatDoorCards.lean) ties it to the program's text. -/
def laid_math_bits_deBruijn32tab {H : Type} : DataW H := .agg [.lit (.int .u8 0), .lit (.int .u8 1), .lit (.int .u8 28), .lit (.int .u8 2), .lit (.int .u8 29), .lit (.int .u8 14), .lit (.int .u8 24), .lit (.int .u8 3), .lit (.int .u8 30), .lit (.int .u8 22), .lit (.int .u8 20), .lit (.int .u8 15), .lit (.int .u8 25), .lit (.int .u8 17), .lit (.int .u8 4), .lit (.int .u8 8), .lit (.int .u8 31), .lit (.int .u8 27), .lit (.int .u8 13), .lit (.int .u8 23), .lit (.int .u8 21), .lit (.int .u8 19), .lit (.int .u8 16), .lit (.int .u8 7), .lit (.int .u8 26), .lit (.int .u8 12), .lit (.int .u8 18), .lit (.int .u8 6), .lit (.int .u8 11), .lit (.int .u8 5), .lit (.int .u8 10), .lit (.int .u8 9)]
def laid_math_bits_deBruijn64tab {H : Type} : DataW H := .agg [.lit (.int .u8 0), .lit (.int .u8 1), .lit (.int .u8 56), .lit (.int .u8 2), .lit (.int .u8 57), .lit (.int .u8 49), .lit (.int .u8 28), .lit (.int .u8 3), .lit (.int .u8 61), .lit (.int .u8 58), .lit (.int .u8 42), .lit (.int .u8 50), .lit (.int .u8 38), .lit (.int .u8 29), .lit (.int .u8 17), .lit (.int .u8 4), .lit (.int .u8 62), .lit (.int .u8 47), .lit (.int .u8 59), .lit (.int .u8 36), .lit (.int .u8 45), .lit (.int .u8 43), .lit (.int .u8 51), .lit (.int .u8 22), .lit (.int .u8 53), .lit (.int .u8 39), .lit (.int .u8 33), .lit (.int .u8 30), .lit (.int .u8 24), .lit (.int .u8 18), .lit (.int .u8 12), .lit (.int .u8 5), .lit (.int .u8 63), .lit (.int .u8 55), .lit (.int .u8 48), .lit (.int .u8 27), .lit (.int .u8 60), .lit (.int .u8 41), .lit (.int .u8 37), .lit (.int .u8 16), .lit (.int .u8 46), .lit (.int .u8 35), .lit (.int .u8 44), .lit (.int .u8 21), .lit (.int .u8 52), .lit (.int .u8 32), .lit (.int .u8 23), .lit (.int .u8 11), .lit (.int .u8 54), .lit (.int .u8 26), .lit (.int .u8 40), .lit (.int .u8 15), .lit (.int .u8 34), .lit (.int .u8 20), .lit (.int .u8 31), .lit (.int .u8 10), .lit (.int .u8 25), .lit (.int .u8 14), .lit (.int .u8 19), .lit (.int .u8 9), .lit (.int .u8 13), .lit (.int .u8 8), .lit (.int .u8 7), .lit (.int .u8 6)]
def laid_internal_strconv_uint64pow10 {H : Type} : DataW H := .agg [.lit (.int .u64 1), .lit (.int .u64 10), .lit (.int .u64 100), .lit (.int .u64 1000), .lit (.int .u64 10000), .lit (.int .u64 100000), .lit (.int .u64 1000000), .lit (.int .u64 10000000), .lit (.int .u64 100000000), .lit (.int .u64 1000000000), .lit (.int .u64 10000000000), .lit (.int .u64 100000000000), .lit (.int .u64 1000000000000), .lit (.int .u64 10000000000000), .lit (.int .u64 100000000000000), .lit (.int .u64 1000000000000000), .lit (.int .u64 10000000000000000), .lit (.int .u64 100000000000000000), .lit (.int .u64 1000000000000000000), .lit (.int .u64 10000000000000000000)]
def laid_unicode_utf8_acceptRanges {H : Type} : DataW H := .agg [.agg [.lit (.int .u8 128), .lit (.int .u8 191)], .agg [.lit (.int .u8 160), .lit (.int .u8 191)], .agg [.lit (.int .u8 128), .lit (.int .u8 159)], .agg [.lit (.int .u8 144), .lit (.int .u8 191)], .agg [.lit (.int .u8 128), .lit (.int .u8 143)], .agg [.lit (.int .u8 0), .lit (.int .u8 0)], .agg [.lit (.int .u8 0), .lit (.int .u8 0)], .agg [.lit (.int .u8 0), .lit (.int .u8 0)], .agg [.lit (.int .u8 0), .lit (.int .u8 0)], .agg [.lit (.int .u8 0), .lit (.int .u8 0)], .agg [.lit (.int .u8 0), .lit (.int .u8 0)], .agg [.lit (.int .u8 0), .lit (.int .u8 0)], .agg [.lit (.int .u8 0), .lit (.int .u8 0)], .agg [.lit (.int .u8 0), .lit (.int .u8 0)], .agg [.lit (.int .u8 0), .lit (.int .u8 0)], .agg [.lit (.int .u8 0), .lit (.int .u8 0)]]
def laid_strconv_ErrRange {H : Type} : DataW H := .iface "*errors.errorString" (.ptr (.agg [.lit (.string [118, 97, 108, 117, 101, 32, 111, 117, 116, 32, 111, 102, 32, 114, 97, 110, 103, 101])]))
def laid_strconv_ErrSyntax {H : Type} : DataW H := .iface "*errors.errorString" (.ptr (.agg [.lit (.string [105, 110, 118, 97, 108, 105, 100, 32, 115, 121, 110, 116, 97, 120])]))
def laid_onair_rights_errWord {H : Type} : DataW H := .iface "*errors.errorString" (.ptr (.agg [.lit (.string [117, 110, 101, 120, 112, 101, 99, 116, 101, 100, 32, 119, 111, 114, 100])]))
/-- One of Go's own tables, pinned by name: the form's constant. -/
def laid_unicode_utf8_first : DataW Unit := Go.Pinned.utf8First
def laid_onair_timecode_rates {H : Type} : DataW H := .agg [.agg [.agg [.lit (.int .i64 24000), .lit (.int .i64 1001)], .lit (.int .i64 24), .lit (.int .i64 0)], .agg [.agg [.lit (.int .i64 24), .lit (.int .i64 1)], .lit (.int .i64 24), .lit (.int .i64 0)], .agg [.agg [.lit (.int .i64 25), .lit (.int .i64 1)], .lit (.int .i64 25), .lit (.int .i64 0)], .agg [.agg [.lit (.int .i64 30000), .lit (.int .i64 1001)], .lit (.int .i64 30), .lit (.int .i64 2)], .agg [.agg [.lit (.int .i64 30), .lit (.int .i64 1)], .lit (.int .i64 30), .lit (.int .i64 0)], .agg [.agg [.lit (.int .i64 50), .lit (.int .i64 1)], .lit (.int .i64 50), .lit (.int .i64 0)], .agg [.agg [.lit (.int .i64 60000), .lit (.int .i64 1001)], .lit (.int .i64 60), .lit (.int .i64 4)], .agg [.agg [.lit (.int .i64 60), .lit (.int .i64 1)], .lit (.int .i64 60), .lit (.int .i64 0)]]
def laid_onair_wire_remainders {H : Type} : DataW H := .agg [.lit (.int .u32 0), .lit (.int .u32 274646895), .lit (.int .u32 549293790), .lit (.int .u32 820201905), .lit (.int .u32 1098587580), .lit (.int .u32 1361435347), .lit (.int .u32 1640403810), .lit (.int .u32 1905808397), .lit (.int .u32 2197175160), .lit (.int .u32 2460548119), .lit (.int .u32 2722870694), .lit (.int .u32 2987750089), .lit (.int .u32 3280807620), .lit (.int .u32 3553878443), .lit (.int .u32 3811616794), .lit (.int .u32 4084100981)]

/-- 'onairlaw06.RightsFirstError': WHATEVER THE INPUT: true; the input reads as it did. -/
def rightsFirstErrorSpec : ChangeSpec := { name := "rightsFirstError", fn := fun _ => fun
  | [d1, d2, d3] => { results := [.lit (.bool true)], args := [d1, d2, d3] }
  | _ => none }
def rightsFirstErrorRow : OpenClaim := { program := "ytpefhdjkpdjdpaagreatdoor", sum := "8013dae6a44ab34dec2f5149cc5d4b2b4a5feeb5dcb708b50ea07cef0afe63b4", func := "onair/onairlaw06.RightsFirstError", spec := "rightsFirstError", inPlace := ["internal/abi.NoEscape", "internal/bytealg.MakeNoZero", "internal/bytealg.IndexByteString", "internal/bytealg.IndexString", "internal/bytealg.CountString"], unfollowed := true, recurses := true, named := ["internal/strconv.uint64pow10", "math/bits.deBruijn32tab", "math/bits.deBruijn64tab", "unicode/utf8.first", "unicode/utf8.acceptRanges", "internal/bytealg.MaxLen", "onair/rights.errWord", "strconv.ErrSyntax", "strconv.ErrRange"], plainKeys := false, apart := false, laid := [("math/bits.deBruijn32tab", laid_math_bits_deBruijn32tab), ("math/bits.deBruijn64tab", laid_math_bits_deBruijn64tab), ("internal/strconv.uint64pow10", laid_internal_strconv_uint64pow10), ("unicode/utf8.acceptRanges", laid_unicode_utf8_acceptRanges), ("strconv.ErrRange", laid_strconv_ErrRange), ("strconv.ErrSyntax", laid_strconv_ErrSyntax), ("onair/rights.errWord", laid_onair_rights_errWord), ("unicode/utf8.first", laid_unicode_utf8_first)] }
def RightsFirstErrorSaid : Prop := rightsFirstErrorRow.holds Tryz.pinned (OpenSpec.ofChange rightsFirstErrorSpec)

/-- ITS FALSE NEIGHBOUR: 'it returns false'. Refute it at one input. -/
def rightsFirstErrorWrong : ChangeSpec := { name := "rightsFirstError", fn := fun _ => fun
  | [d1, d2, d3] => { results := [.lit (.bool false)], args := [d1, d2, d3] }
  | _ => none }
def RightsFirstErrorWrongFalsely : Prop := rightsFirstErrorRow.holds Tryz.pinned (OpenSpec.ofChange rightsFirstErrorWrong)

/-- 'onairlaw06.RightsLookupsMatchReference': WHATEVER THE INPUT: true; the input reads as it did. -/
def rightsLookupsMatchReferenceSpec : ChangeSpec := { name := "rightsLookupsMatchReference", fn := fun _ => fun
  | [d1, d2, d3, d4, d5, d6] => { results := [.lit (.bool true)], args := [d1, d2, d3, d4, d5, d6] }
  | _ => none }
def rightsLookupsMatchReferenceRow : OpenClaim := { program := "ytpefhdjkpdjdpaagreatdoor", sum := "8013dae6a44ab34dec2f5149cc5d4b2b4a5feeb5dcb708b50ea07cef0afe63b4", func := "onair/onairlaw06.RightsLookupsMatchReference", spec := "rightsLookupsMatchReference", inPlace := ["internal/abi.NoEscape", "internal/bytealg.MakeNoZero", "internal/bytealg.IndexByteString", "internal/bytealg.IndexString", "internal/bytealg.CountString"], unfollowed := true, recurses := true, named := ["internal/strconv.uint64pow10", "math/bits.deBruijn32tab", "math/bits.deBruijn64tab", "unicode/utf8.first", "unicode/utf8.acceptRanges", "internal/bytealg.MaxLen", "onair/rights.errWord", "strconv.ErrSyntax", "strconv.ErrRange"], plainKeys := false, apart := false, laid := [("math/bits.deBruijn32tab", laid_math_bits_deBruijn32tab), ("math/bits.deBruijn64tab", laid_math_bits_deBruijn64tab), ("internal/strconv.uint64pow10", laid_internal_strconv_uint64pow10), ("unicode/utf8.acceptRanges", laid_unicode_utf8_acceptRanges), ("strconv.ErrRange", laid_strconv_ErrRange), ("strconv.ErrSyntax", laid_strconv_ErrSyntax), ("onair/rights.errWord", laid_onair_rights_errWord), ("unicode/utf8.first", laid_unicode_utf8_first)] }
def RightsLookupsMatchReferenceSaid : Prop := rightsLookupsMatchReferenceRow.holds Tryz.pinned (OpenSpec.ofChange rightsLookupsMatchReferenceSpec)

/-- ITS FALSE NEIGHBOUR: 'it returns false'. Refute it at one input. -/
def rightsLookupsMatchReferenceWrong : ChangeSpec := { name := "rightsLookupsMatchReference", fn := fun _ => fun
  | [d1, d2, d3, d4, d5, d6] => { results := [.lit (.bool false)], args := [d1, d2, d3, d4, d5, d6] }
  | _ => none }
def RightsLookupsMatchReferenceWrongFalsely : Prop := rightsLookupsMatchReferenceRow.holds Tryz.pinned (OpenSpec.ofChange rightsLookupsMatchReferenceWrong)

/-- 'onairlaw06.RightsLastDecides': WHATEVER THE INPUT: true; the input reads as it did. -/
def rightsLastDecidesSpec : ChangeSpec := { name := "rightsLastDecides", fn := fun _ => fun
  | [d1, d2, d3, d4] => { results := [.lit (.bool true)], args := [d1, d2, d3, d4] }
  | _ => none }
def rightsLastDecidesRow : OpenClaim := { program := "ytpefhdjkpdjdpaagreatdoor", sum := "8013dae6a44ab34dec2f5149cc5d4b2b4a5feeb5dcb708b50ea07cef0afe63b4", func := "onair/onairlaw06.RightsLastDecides", spec := "rightsLastDecides", inPlace := ["internal/abi.NoEscape", "internal/bytealg.MakeNoZero", "internal/bytealg.IndexByteString", "internal/bytealg.IndexString", "internal/bytealg.CountString"], unfollowed := true, recurses := true, named := ["internal/strconv.uint64pow10", "math/bits.deBruijn32tab", "math/bits.deBruijn64tab", "unicode/utf8.first", "unicode/utf8.acceptRanges", "internal/bytealg.MaxLen", "onair/rights.errWord", "strconv.ErrSyntax", "strconv.ErrRange"], plainKeys := false, apart := false, laid := [("math/bits.deBruijn32tab", laid_math_bits_deBruijn32tab), ("math/bits.deBruijn64tab", laid_math_bits_deBruijn64tab), ("internal/strconv.uint64pow10", laid_internal_strconv_uint64pow10), ("unicode/utf8.acceptRanges", laid_unicode_utf8_acceptRanges), ("strconv.ErrRange", laid_strconv_ErrRange), ("strconv.ErrSyntax", laid_strconv_ErrSyntax), ("onair/rights.errWord", laid_onair_rights_errWord), ("unicode/utf8.first", laid_unicode_utf8_first)] }
def RightsLastDecidesSaid : Prop := rightsLastDecidesRow.holds Tryz.pinned (OpenSpec.ofChange rightsLastDecidesSpec)

/-- ITS FALSE NEIGHBOUR: 'it returns false'. Refute it at one input. -/
def rightsLastDecidesWrong : ChangeSpec := { name := "rightsLastDecides", fn := fun _ => fun
  | [d1, d2, d3, d4] => { results := [.lit (.bool false)], args := [d1, d2, d3, d4] }
  | _ => none }
def RightsLastDecidesWrongFalsely : Prop := rightsLastDecidesRow.holds Tryz.pinned (OpenSpec.ofChange rightsLastDecidesWrong)

/-- 'onairlaw27.AuditInvoice': WHATEVER THE INPUT: true; the input reads as it did. -/
def auditInvoiceSpec : ChangeSpec := { name := "auditInvoice", fn := fun _ => fun
  | [d1, d2, d3, d4, d5] => { results := [.lit (.bool true)], args := [d1, d2, d3, d4, d5] }
  | _ => none }
def auditInvoiceRow : OpenClaim := { program := "ytpefhdjkpdjdpaagreatdoor", sum := "8013dae6a44ab34dec2f5149cc5d4b2b4a5feeb5dcb708b50ea07cef0afe63b4", func := "onair/onairlaw27.AuditInvoice", spec := "auditInvoice", inPlace := ["internal/abi.NoEscape"], unfollowed := true, recurses := true, named := ["onair/timecode.rates", "onair/wire.remainders"], plainKeys := false, apart := false, laid := [("onair/timecode.rates", laid_onair_timecode_rates), ("onair/wire.remainders", laid_onair_wire_remainders)] }
def AuditInvoiceSaid : Prop := auditInvoiceRow.holds Tryz.pinned (OpenSpec.ofChange auditInvoiceSpec)

/-- ITS FALSE NEIGHBOUR: 'it returns false'. Refute it at one input. -/
def auditInvoiceWrong : ChangeSpec := { name := "auditInvoice", fn := fun _ => fun
  | [d1, d2, d3, d4, d5] => { results := [.lit (.bool false)], args := [d1, d2, d3, d4, d5] }
  | _ => none }
def AuditInvoiceWrongFalsely : Prop := auditInvoiceRow.holds Tryz.pinned (OpenSpec.ofChange auditInvoiceWrong)

/-- 'onairlaw06.RightsAppended': WHATEVER THE INPUT: true; the input reads as it did. -/
def rightsAppendedSpec : ChangeSpec := { name := "rightsAppended", fn := fun _ => fun
  | [d1, d2, d3, d4] => { results := [.lit (.bool true)], args := [d1, d2, d3, d4] }
  | _ => none }
def rightsAppendedRow : OpenClaim := { program := "ytpefhdjkpdjdpaagreatdoor", sum := "8013dae6a44ab34dec2f5149cc5d4b2b4a5feeb5dcb708b50ea07cef0afe63b4", func := "onair/onairlaw06.RightsAppended", spec := "rightsAppended", inPlace := ["internal/abi.NoEscape", "internal/bytealg.MakeNoZero", "internal/bytealg.IndexByteString", "internal/bytealg.IndexString", "internal/bytealg.CountString"], unfollowed := true, recurses := true, named := ["internal/strconv.uint64pow10", "math/bits.deBruijn32tab", "math/bits.deBruijn64tab", "unicode/utf8.first", "unicode/utf8.acceptRanges", "internal/bytealg.MaxLen", "onair/rights.errWord", "strconv.ErrSyntax", "strconv.ErrRange"], plainKeys := false, apart := false, laid := [("math/bits.deBruijn32tab", laid_math_bits_deBruijn32tab), ("math/bits.deBruijn64tab", laid_math_bits_deBruijn64tab), ("internal/strconv.uint64pow10", laid_internal_strconv_uint64pow10), ("unicode/utf8.acceptRanges", laid_unicode_utf8_acceptRanges), ("strconv.ErrRange", laid_strconv_ErrRange), ("strconv.ErrSyntax", laid_strconv_ErrSyntax), ("onair/rights.errWord", laid_onair_rights_errWord), ("unicode/utf8.first", laid_unicode_utf8_first)] }
def RightsAppendedSaid : Prop := rightsAppendedRow.holds Tryz.pinned (OpenSpec.ofChange rightsAppendedSpec)

/-- ITS FALSE NEIGHBOUR: 'it returns false'. Refute it at one input. -/
def rightsAppendedWrong : ChangeSpec := { name := "rightsAppended", fn := fun _ => fun
  | [d1, d2, d3, d4] => { results := [.lit (.bool false)], args := [d1, d2, d3, d4] }
  | _ => none }
def RightsAppendedWrongFalsely : Prop := rightsAppendedRow.holds Tryz.pinned (OpenSpec.ofChange rightsAppendedWrong)

/- THE SECOND FORM. 'bulk': how many values and letters a reading holds, each counted each time it is reached (what is shared counts as often as it is met; a slice's spare places count too). A statement '..UptoSaid' is the law's where the arguments, and the package variables that the reading takes, are together of bulk at most 1048576: NARROWER than '..Said'. Prove '..Said' where nothing that the law and all that it calls make is longer than what came in: it says more and counts as full. Else prove '..UptoSaid'. A law counts once. -/
mutual
def uptoBulk {H : Type} : DataW H → Nat
  | .lit (.string bytes) => bytes.length + 1
  | .lit _ => 1
  | .nil => 1
  | .ptr d => uptoBulk d + 1
  | .slice elems spare => uptoBulkAll elems + uptoBulkAll spare + 1
  | .agg parts => uptoBulkAll parts + 1
  | .iface _ d => uptoBulk d + 1
  | .map entries => uptoBulkEntries entries + 1
  | .held _ => 1
def uptoBulkAll {H : Type} : List (DataW H) → Nat
  | [] => 0
  | d :: r => uptoBulk d + uptoBulkAll r
def uptoBulkEntries {H : Type} : List (Lit × DataW H) → Nat
  | [] => 0
  | x :: r => uptoBulkEntry x + uptoBulkEntries r
def uptoBulkEntry {H : Type} : Lit × DataW H → Nat
  | (.string bytes, d) => bytes.length + uptoBulk d + 1
  | (_, d) => uptoBulk d + 1
 end
def uptoSmall : (H : Type) → List (DataW H) → Bool := fun _ ds => decide (uptoBulkAll ds ≤ 1048576)
def OpenSpec.upto (s : _root_.Go.ChangeSpec) : _root_.Go.OpenSpec := { _root_.Go.OpenSpec.ofChange s with cond := some uptoSmall }

/-- 'onairlaw06.RightsFirstError', WHERE WHAT IT READS IS OF BULK AT MOST 1048576: true; the input reads as it did. -/
def rightsFirstErrorUptoRow : OpenClaim := { program := "ytpefhdjkpdjdpaagreatdoor", sum := "8013dae6a44ab34dec2f5149cc5d4b2b4a5feeb5dcb708b50ea07cef0afe63b4", func := "onair/onairlaw06.RightsFirstError", spec := "rightsFirstError", inPlace := ["internal/abi.NoEscape", "internal/bytealg.MakeNoZero", "internal/bytealg.IndexByteString", "internal/bytealg.IndexString", "internal/bytealg.CountString"], unfollowed := true, recurses := true, named := ["internal/strconv.uint64pow10", "math/bits.deBruijn32tab", "math/bits.deBruijn64tab", "unicode/utf8.first", "unicode/utf8.acceptRanges", "internal/bytealg.MaxLen", "onair/rights.errWord", "strconv.ErrSyntax", "strconv.ErrRange"], plainKeys := false, apart := false, laid := [("math/bits.deBruijn32tab", laid_math_bits_deBruijn32tab), ("math/bits.deBruijn64tab", laid_math_bits_deBruijn64tab), ("internal/strconv.uint64pow10", laid_internal_strconv_uint64pow10), ("unicode/utf8.acceptRanges", laid_unicode_utf8_acceptRanges), ("strconv.ErrRange", laid_strconv_ErrRange), ("strconv.ErrSyntax", laid_strconv_ErrSyntax), ("onair/rights.errWord", laid_onair_rights_errWord), ("unicode/utf8.first", laid_unicode_utf8_first)], narrowed := true }
def RightsFirstErrorUptoSaid : Prop := rightsFirstErrorUptoRow.holds Tryz.pinned (OpenSpec.upto rightsFirstErrorSpec)

/-- 'onairlaw06.RightsLookupsMatchReference', WHERE WHAT IT READS IS OF BULK AT MOST 1048576: true; the input reads as it did. -/
def rightsLookupsMatchReferenceUptoRow : OpenClaim := { program := "ytpefhdjkpdjdpaagreatdoor", sum := "8013dae6a44ab34dec2f5149cc5d4b2b4a5feeb5dcb708b50ea07cef0afe63b4", func := "onair/onairlaw06.RightsLookupsMatchReference", spec := "rightsLookupsMatchReference", inPlace := ["internal/abi.NoEscape", "internal/bytealg.MakeNoZero", "internal/bytealg.IndexByteString", "internal/bytealg.IndexString", "internal/bytealg.CountString"], unfollowed := true, recurses := true, named := ["internal/strconv.uint64pow10", "math/bits.deBruijn32tab", "math/bits.deBruijn64tab", "unicode/utf8.first", "unicode/utf8.acceptRanges", "internal/bytealg.MaxLen", "onair/rights.errWord", "strconv.ErrSyntax", "strconv.ErrRange"], plainKeys := false, apart := false, laid := [("math/bits.deBruijn32tab", laid_math_bits_deBruijn32tab), ("math/bits.deBruijn64tab", laid_math_bits_deBruijn64tab), ("internal/strconv.uint64pow10", laid_internal_strconv_uint64pow10), ("unicode/utf8.acceptRanges", laid_unicode_utf8_acceptRanges), ("strconv.ErrRange", laid_strconv_ErrRange), ("strconv.ErrSyntax", laid_strconv_ErrSyntax), ("onair/rights.errWord", laid_onair_rights_errWord), ("unicode/utf8.first", laid_unicode_utf8_first)], narrowed := true }
def RightsLookupsMatchReferenceUptoSaid : Prop := rightsLookupsMatchReferenceUptoRow.holds Tryz.pinned (OpenSpec.upto rightsLookupsMatchReferenceSpec)

/-- 'onairlaw06.RightsLastDecides', WHERE WHAT IT READS IS OF BULK AT MOST 1048576: true; the input reads as it did. -/
def rightsLastDecidesUptoRow : OpenClaim := { program := "ytpefhdjkpdjdpaagreatdoor", sum := "8013dae6a44ab34dec2f5149cc5d4b2b4a5feeb5dcb708b50ea07cef0afe63b4", func := "onair/onairlaw06.RightsLastDecides", spec := "rightsLastDecides", inPlace := ["internal/abi.NoEscape", "internal/bytealg.MakeNoZero", "internal/bytealg.IndexByteString", "internal/bytealg.IndexString", "internal/bytealg.CountString"], unfollowed := true, recurses := true, named := ["internal/strconv.uint64pow10", "math/bits.deBruijn32tab", "math/bits.deBruijn64tab", "unicode/utf8.first", "unicode/utf8.acceptRanges", "internal/bytealg.MaxLen", "onair/rights.errWord", "strconv.ErrSyntax", "strconv.ErrRange"], plainKeys := false, apart := false, laid := [("math/bits.deBruijn32tab", laid_math_bits_deBruijn32tab), ("math/bits.deBruijn64tab", laid_math_bits_deBruijn64tab), ("internal/strconv.uint64pow10", laid_internal_strconv_uint64pow10), ("unicode/utf8.acceptRanges", laid_unicode_utf8_acceptRanges), ("strconv.ErrRange", laid_strconv_ErrRange), ("strconv.ErrSyntax", laid_strconv_ErrSyntax), ("onair/rights.errWord", laid_onair_rights_errWord), ("unicode/utf8.first", laid_unicode_utf8_first)], narrowed := true }
def RightsLastDecidesUptoSaid : Prop := rightsLastDecidesUptoRow.holds Tryz.pinned (OpenSpec.upto rightsLastDecidesSpec)

/-- 'onairlaw27.AuditInvoice', WHERE WHAT IT READS IS OF BULK AT MOST 1048576: true; the input reads as it did. -/
def auditInvoiceUptoRow : OpenClaim := { program := "ytpefhdjkpdjdpaagreatdoor", sum := "8013dae6a44ab34dec2f5149cc5d4b2b4a5feeb5dcb708b50ea07cef0afe63b4", func := "onair/onairlaw27.AuditInvoice", spec := "auditInvoice", inPlace := ["internal/abi.NoEscape"], unfollowed := true, recurses := true, named := ["onair/timecode.rates", "onair/wire.remainders"], plainKeys := false, apart := false, laid := [("onair/timecode.rates", laid_onair_timecode_rates), ("onair/wire.remainders", laid_onair_wire_remainders)], narrowed := true }
def AuditInvoiceUptoSaid : Prop := auditInvoiceUptoRow.holds Tryz.pinned (OpenSpec.upto auditInvoiceSpec)

/-- 'onairlaw06.RightsAppended', WHERE WHAT IT READS IS OF BULK AT MOST 1048576: true; the input reads as it did. -/
def rightsAppendedUptoRow : OpenClaim := { program := "ytpefhdjkpdjdpaagreatdoor", sum := "8013dae6a44ab34dec2f5149cc5d4b2b4a5feeb5dcb708b50ea07cef0afe63b4", func := "onair/onairlaw06.RightsAppended", spec := "rightsAppended", inPlace := ["internal/abi.NoEscape", "internal/bytealg.MakeNoZero", "internal/bytealg.IndexByteString", "internal/bytealg.IndexString", "internal/bytealg.CountString"], unfollowed := true, recurses := true, named := ["internal/strconv.uint64pow10", "math/bits.deBruijn32tab", "math/bits.deBruijn64tab", "unicode/utf8.first", "unicode/utf8.acceptRanges", "internal/bytealg.MaxLen", "onair/rights.errWord", "strconv.ErrSyntax", "strconv.ErrRange"], plainKeys := false, apart := false, laid := [("math/bits.deBruijn32tab", laid_math_bits_deBruijn32tab), ("math/bits.deBruijn64tab", laid_math_bits_deBruijn64tab), ("internal/strconv.uint64pow10", laid_internal_strconv_uint64pow10), ("unicode/utf8.acceptRanges", laid_unicode_utf8_acceptRanges), ("strconv.ErrRange", laid_strconv_ErrRange), ("strconv.ErrSyntax", laid_strconv_ErrSyntax), ("onair/rights.errWord", laid_onair_rights_errWord), ("unicode/utf8.first", laid_unicode_utf8_first)], narrowed := true }
def RightsAppendedUptoSaid : Prop := rightsAppendedUptoRow.holds Tryz.pinned (OpenSpec.upto rightsAppendedSpec)

end Rows
end Go.Proofs.YtpefhdjkpdjdpaaGreatDoor
