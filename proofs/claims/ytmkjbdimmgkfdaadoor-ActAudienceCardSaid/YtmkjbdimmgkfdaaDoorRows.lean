/-
  NARROWER THAN 'FOR EVERY INPUT', by the rows' own cells (each row's printed sentence says how): ActReads: laid · ActBinds: laid · ActSigns: laid · ActFields: laid · ActAudience: laid.
  DERIVED. THE GIVEN ROWS OF THIS SEAT. 5 by the template 'for every input the law returns true; each argument reads behind the call as it read before'; 0 by the template 'total and deterministic' (their statements: YtmkjbdimmgkfdaaDoorTotals.lean).
  GIVEN WITH THE SEED: the statements are not yours to turn. If you find one false, say at which input.
  Laid BY PROGRAM, IN A SANDBOX (cutbox-rows.mjs): the forced cells as the released guide's own fill.sh prints them over the translation 173ffd52e60c7ebf… (all of the seat's roots in one cut). By AI agents, Wed Nov 11 2026. No macro, syntax, notation, axiom, sorry.
-/
import Derived.Test.YtmkjbdimmgkfdaaDoorChecked
import GoSem.PinnedTables
import GoSem.Claim
import GoSem.ClaimJoined
import GoSem.ClaimMapViews
import Derived.JoinedTies
import Derived.KernelRfl
namespace Go.Proofs.YtmkjbdimmgkfdaaDoor
/- THE CELL 'sum', in the pinned program and in every row, IS THE sha256 OF THE DUMP (.gsa) THAT YtmkjbdimmgkfdaaDoorProg.lean LOADS. Nothing in Lean hashes anything: it is a label: what it is worth is what the hold of that sum in a sandbox is worth. -/
noncomputable def Tryd.pinned : Pinned := { name := "ytmkjbdimmgkfdaadoor", sum := "173ffd52e60c7ebf9b8f1a74530d0b73c59475502d0f46dde951606a2efcfffc", checked := Tryd.checked }
namespace Rows
def none {H : Type} : Left H := { results := [], args := [] }

/- WHAT THE LISTED PACKAGE-LEVEL VARIABLES READ AS WHEN THE CALL BEGINS. Each datum BY PROGRAM (the guide's laid-datum.mjs) off the statement by which the dump's own 'gosem.cut.vars' lays the variable. In a bare row this is a premise. The card (YtmkjbdimmgkfdaaDoorCards.lean) ties it to the program's text. -/
def laid_unicode_utf8_acceptRanges {H : Type} : DataW H := .agg [.agg [.lit (.int .u8 128), .lit (.int .u8 191)], .agg [.lit (.int .u8 160), .lit (.int .u8 191)], .agg [.lit (.int .u8 128), .lit (.int .u8 159)], .agg [.lit (.int .u8 144), .lit (.int .u8 191)], .agg [.lit (.int .u8 128), .lit (.int .u8 143)], .agg [.lit (.int .u8 0), .lit (.int .u8 0)], .agg [.lit (.int .u8 0), .lit (.int .u8 0)], .agg [.lit (.int .u8 0), .lit (.int .u8 0)], .agg [.lit (.int .u8 0), .lit (.int .u8 0)], .agg [.lit (.int .u8 0), .lit (.int .u8 0)], .agg [.lit (.int .u8 0), .lit (.int .u8 0)], .agg [.lit (.int .u8 0), .lit (.int .u8 0)], .agg [.lit (.int .u8 0), .lit (.int .u8 0)], .agg [.lit (.int .u8 0), .lit (.int .u8 0)], .agg [.lit (.int .u8 0), .lit (.int .u8 0)], .agg [.lit (.int .u8 0), .lit (.int .u8 0)]]
def laid_agora_act_kinds {H : Type} : DataW H := .iface "func table" (.map [(.int .i64 0, .agg [.lit (.bool false), .lit (.bool false), .lit (.bool false), .lit (.bool false), .lit (.bool false), .lit (.bool true), .lit (.bool false), .lit (.bool true), .lit (.bool true), .iface "func" (.lit (.string [97, 103, 111, 114, 97, 47, 97, 99, 116, 46, 107, 105, 110, 100, 115, 36, 49]))]), (.int .i64 1, .agg [.lit (.bool false), .lit (.bool false), .lit (.bool true), .lit (.bool false), .lit (.bool false), .lit (.bool false), .lit (.bool false), .lit (.bool false), .lit (.bool false), .iface "func" (.lit (.string [97, 103, 111, 114, 97, 47, 97, 99, 116, 46, 97, 117, 100, 105, 101, 110, 99, 101]))]), (.int .i64 2, .agg [.lit (.bool true), .lit (.bool false), .lit (.bool true), .lit (.bool false), .lit (.bool false), .lit (.bool false), .lit (.bool false), .lit (.bool false), .lit (.bool false), .iface "func" (.lit (.string [97, 103, 111, 114, 97, 47, 97, 99, 116, 46, 97, 117, 100, 105, 101, 110, 99, 101]))]), (.int .i64 3, .agg [.lit (.bool true), .lit (.bool false), .lit (.bool true), .lit (.bool false), .lit (.bool false), .lit (.bool false), .lit (.bool false), .lit (.bool false), .lit (.bool false), .iface "func" (.lit (.string [97, 103, 111, 114, 97, 47, 97, 99, 116, 46, 97, 117, 100, 105, 101, 110, 99, 101]))]), (.int .i64 4, .agg [.lit (.bool true), .lit (.bool false), .lit (.bool false), .lit (.bool false), .lit (.bool false), .lit (.bool false), .lit (.bool false), .lit (.bool false), .lit (.bool false), .nil]), (.int .i64 5, .agg [.lit (.bool true), .lit (.bool false), .lit (.bool false), .lit (.bool false), .lit (.bool false), .lit (.bool false), .lit (.bool false), .lit (.bool false), .lit (.bool false), .nil]), (.int .i64 6, .agg [.lit (.bool true), .lit (.bool false), .lit (.bool false), .lit (.bool false), .lit (.bool false), .lit (.bool false), .lit (.bool false), .lit (.bool false), .lit (.bool false), .nil]), (.int .i64 7, .agg [.lit (.bool false), .lit (.bool true), .lit (.bool false), .lit (.bool false), .lit (.bool false), .lit (.bool false), .lit (.bool false), .lit (.bool false), .lit (.bool false), .nil]), (.int .i64 8, .agg [.lit (.bool false), .lit (.bool true), .lit (.bool false), .lit (.bool false), .lit (.bool false), .lit (.bool false), .lit (.bool false), .lit (.bool false), .lit (.bool false), .nil]), (.int .i64 9, .agg [.lit (.bool false), .lit (.bool true), .lit (.bool false), .lit (.bool false), .lit (.bool false), .lit (.bool false), .lit (.bool false), .lit (.bool false), .lit (.bool false), .nil]), (.int .i64 10, .agg [.lit (.bool false), .lit (.bool true), .lit (.bool false), .lit (.bool false), .lit (.bool false), .lit (.bool false), .lit (.bool false), .lit (.bool false), .lit (.bool false), .nil]), (.int .i64 11, .agg [.lit (.bool false), .lit (.bool true), .lit (.bool false), .lit (.bool false), .lit (.bool false), .lit (.bool false), .lit (.bool false), .lit (.bool false), .lit (.bool false), .nil]), (.int .i64 12, .agg [.lit (.bool true), .lit (.bool false), .lit (.bool false), .lit (.bool false), .lit (.bool false), .lit (.bool true), .lit (.bool false), .lit (.bool false), .lit (.bool false), .iface "func" (.lit (.string [97, 103, 111, 114, 97, 47, 97, 99, 116, 46, 114, 101, 97, 115, 111, 110]))]), (.int .i64 13, .agg [.lit (.bool true), .lit (.bool false), .lit (.bool false), .lit (.bool false), .lit (.bool false), .lit (.bool false), .lit (.bool false), .lit (.bool false), .lit (.bool false), .nil]), (.int .i64 14, .agg [.lit (.bool true), .lit (.bool false), .lit (.bool true), .lit (.bool false), .lit (.bool false), .lit (.bool false), .lit (.bool false), .lit (.bool false), .lit (.bool false), .iface "func" (.lit (.string [97, 103, 111, 114, 97, 47, 97, 99, 116, 46, 97, 117, 100, 105, 101, 110, 99, 101]))]), (.int .i64 15, .agg [.lit (.bool false), .lit (.bool false), .lit (.bool false), .lit (.bool true), .lit (.bool true), .lit (.bool false), .lit (.bool false), .lit (.bool false), .lit (.bool false), .iface "func" (.lit (.string [97, 103, 111, 114, 97, 47, 97, 99, 116, 46, 107, 105, 110, 100, 115, 36, 50]))]), (.int .i64 16, .agg [.lit (.bool false), .lit (.bool false), .lit (.bool true), .lit (.bool true), .lit (.bool true), .lit (.bool false), .lit (.bool true), .lit (.bool false), .lit (.bool false), .iface "func" (.lit (.string [97, 103, 111, 114, 97, 47, 97, 99, 116, 46, 107, 105, 110, 100, 115, 36, 51]))]), (.int .i64 17, .agg [.lit (.bool true), .lit (.bool true), .lit (.bool false), .lit (.bool false), .lit (.bool false), .lit (.bool true), .lit (.bool false), .lit (.bool false), .lit (.bool false), .iface "func" (.lit (.string [97, 103, 111, 114, 97, 47, 97, 99, 116, 46, 107, 105, 110, 100, 115, 36, 52]))]), (.int .i64 18, .agg [.lit (.bool false), .lit (.bool false), .lit (.bool false), .lit (.bool false), .lit (.bool false), .lit (.bool false), .lit (.bool false), .lit (.bool true), .lit (.bool true), .iface "func" (.lit (.string [97, 103, 111, 114, 97, 47, 97, 99, 116, 46, 107, 105, 110, 100, 115, 36, 53]))]), (.int .i64 19, .agg [.lit (.bool false), .lit (.bool false), .lit (.bool false), .lit (.bool false), .lit (.bool true), .lit (.bool false), .lit (.bool true), .lit (.bool true), .lit (.bool true), .iface "func" (.lit (.string [97, 103, 111, 114, 97, 47, 97, 99, 116, 46, 107, 105, 110, 100, 115, 36, 54]))]), (.int .i64 20, .agg [.lit (.bool true), .lit (.bool false), .lit (.bool false), .lit (.bool false), .lit (.bool false), .lit (.bool false), .lit (.bool false), .lit (.bool false), .lit (.bool false), .nil]), (.int .i64 21, .agg [.lit (.bool true), .lit (.bool false), .lit (.bool false), .lit (.bool false), .lit (.bool false), .lit (.bool true), .lit (.bool false), .lit (.bool false), .lit (.bool false), .iface "func" (.lit (.string [97, 103, 111, 114, 97, 47, 97, 99, 116, 46, 114, 101, 97, 115, 111, 110]))]), (.int .i64 22, .agg [.lit (.bool true), .lit (.bool false), .lit (.bool false), .lit (.bool false), .lit (.bool false), .lit (.bool false), .lit (.bool false), .lit (.bool true), .lit (.bool false), .iface "func" (.lit (.string [97, 103, 111, 114, 97, 47, 97, 99, 116, 46, 107, 105, 110, 100, 115, 36, 55]))]), (.int .i64 23, .agg [.lit (.bool false), .lit (.bool true), .lit (.bool false), .lit (.bool false), .lit (.bool false), .lit (.bool true), .lit (.bool false), .lit (.bool true), .lit (.bool false), .iface "func" (.lit (.string [97, 103, 111, 114, 97, 47, 97, 99, 116, 46, 107, 105, 110, 100, 115, 36, 56]))])])
/-- One of Go's own tables, pinned by name: the form's constant. -/
def laid_unicode_utf8_first : DataW Unit := Go.Pinned.utf8First

/-- 'agoralaw12.ActReads': WHATEVER THE INPUT: true; the input reads as it did. -/
def actReadsSpec : ChangeSpec := { name := "actReads", fn := fun _ => fun
  | [d1, d2] => { results := [.lit (.bool true)], args := [d1, d2] }
  | _ => none }
def actReadsRow : OpenClaim := { program := "ytmkjbdimmgkfdaadoor", sum := "173ffd52e60c7ebf9b8f1a74530d0b73c59475502d0f46dde951606a2efcfffc", func := "agora/agoralaw12.ActReads", spec := "actReads", inPlace := ["internal/bytealg.IndexByteString", "internal/bytealg.IndexString", "internal/abi.NoEscape", "internal/bytealg.MakeNoZero"], unfollowed := true, recurses := true, named := ["agora/act.kinds", "unicode/utf8.first", "unicode/utf8.acceptRanges", "math/bits.divideError", "math/bits.overflowError", "internal/bytealg.MaxLen"], apart := false, laid := [("unicode/utf8.acceptRanges", laid_unicode_utf8_acceptRanges), ("agora/act.kinds", laid_agora_act_kinds), ("unicode/utf8.first", laid_unicode_utf8_first)] }
def ActReadsSaid : Prop := actReadsRow.holds Tryd.pinned (OpenSpec.ofChange actReadsSpec)

/-- ITS FALSE NEIGHBOUR: 'it returns false'. Refute it at one input. -/
def actReadsWrong : ChangeSpec := { name := "actReads", fn := fun _ => fun
  | [d1, d2] => { results := [.lit (.bool false)], args := [d1, d2] }
  | _ => none }
def ActReadsWrongFalsely : Prop := actReadsRow.holds Tryd.pinned (OpenSpec.ofChange actReadsWrong)

/-- 'agoralaw12.ActBinds': WHATEVER THE INPUT: true; the input reads as it did. -/
def actBindsSpec : ChangeSpec := { name := "actBinds", fn := fun _ => fun
  | [d1, d2, d3] => { results := [.lit (.bool true)], args := [d1, d2, d3] }
  | _ => none }
def actBindsRow : OpenClaim := { program := "ytmkjbdimmgkfdaadoor", sum := "173ffd52e60c7ebf9b8f1a74530d0b73c59475502d0f46dde951606a2efcfffc", func := "agora/agoralaw12.ActBinds", spec := "actBinds", inPlace := ["internal/bytealg.IndexByteString", "internal/bytealg.IndexString", "internal/abi.NoEscape", "internal/bytealg.MakeNoZero"], unfollowed := true, recurses := true, named := ["agora/act.kinds", "unicode/utf8.first", "unicode/utf8.acceptRanges", "math/bits.divideError", "math/bits.overflowError", "internal/bytealg.MaxLen"], apart := false, laid := [("unicode/utf8.acceptRanges", laid_unicode_utf8_acceptRanges), ("agora/act.kinds", laid_agora_act_kinds), ("unicode/utf8.first", laid_unicode_utf8_first)] }
def ActBindsSaid : Prop := actBindsRow.holds Tryd.pinned (OpenSpec.ofChange actBindsSpec)

/-- ITS FALSE NEIGHBOUR: 'it returns false'. Refute it at one input. -/
def actBindsWrong : ChangeSpec := { name := "actBinds", fn := fun _ => fun
  | [d1, d2, d3] => { results := [.lit (.bool false)], args := [d1, d2, d3] }
  | _ => none }
def ActBindsWrongFalsely : Prop := actBindsRow.holds Tryd.pinned (OpenSpec.ofChange actBindsWrong)

/-- 'agoralaw12.ActSigns': WHATEVER THE INPUT: true; the input reads as it did. -/
def actSignsSpec : ChangeSpec := { name := "actSigns", fn := fun _ => fun
  | [d1, d2] => { results := [.lit (.bool true)], args := [d1, d2] }
  | _ => none }
def actSignsRow : OpenClaim := { program := "ytmkjbdimmgkfdaadoor", sum := "173ffd52e60c7ebf9b8f1a74530d0b73c59475502d0f46dde951606a2efcfffc", func := "agora/agoralaw12.ActSigns", spec := "actSigns", inPlace := ["internal/bytealg.IndexByteString", "internal/bytealg.IndexString", "internal/abi.NoEscape", "internal/bytealg.MakeNoZero"], unfollowed := true, recurses := true, named := ["agora/act.kinds", "unicode/utf8.first", "unicode/utf8.acceptRanges", "math/bits.divideError", "math/bits.overflowError", "internal/bytealg.MaxLen"], apart := false, laid := [("unicode/utf8.acceptRanges", laid_unicode_utf8_acceptRanges), ("agora/act.kinds", laid_agora_act_kinds), ("unicode/utf8.first", laid_unicode_utf8_first)] }
def ActSignsSaid : Prop := actSignsRow.holds Tryd.pinned (OpenSpec.ofChange actSignsSpec)

/-- ITS FALSE NEIGHBOUR: 'it returns false'. Refute it at one input. -/
def actSignsWrong : ChangeSpec := { name := "actSigns", fn := fun _ => fun
  | [d1, d2] => { results := [.lit (.bool false)], args := [d1, d2] }
  | _ => none }
def ActSignsWrongFalsely : Prop := actSignsRow.holds Tryd.pinned (OpenSpec.ofChange actSignsWrong)

/-- 'agoralaw12.ActFields': WHATEVER THE INPUT: true; the input reads as it did. -/
def actFieldsSpec : ChangeSpec := { name := "actFields", fn := fun _ => fun
  | [d] => { results := [.lit (.bool true)], args := [d] }
  | _ => none }
def actFieldsRow : OpenClaim := { program := "ytmkjbdimmgkfdaadoor", sum := "173ffd52e60c7ebf9b8f1a74530d0b73c59475502d0f46dde951606a2efcfffc", func := "agora/agoralaw12.ActFields", spec := "actFields", inPlace := ["internal/bytealg.IndexByteString", "internal/bytealg.IndexString", "internal/abi.NoEscape", "internal/bytealg.MakeNoZero"], unfollowed := true, recurses := true, named := ["agora/act.kinds", "unicode/utf8.first", "unicode/utf8.acceptRanges", "math/bits.divideError", "math/bits.overflowError", "internal/bytealg.MaxLen"], apart := false, laid := [("unicode/utf8.acceptRanges", laid_unicode_utf8_acceptRanges), ("agora/act.kinds", laid_agora_act_kinds), ("unicode/utf8.first", laid_unicode_utf8_first)] }
def ActFieldsSaid : Prop := actFieldsRow.holds Tryd.pinned (OpenSpec.ofChange actFieldsSpec)

/-- ITS FALSE NEIGHBOUR: 'it returns false'. Refute it at one input. -/
def actFieldsWrong : ChangeSpec := { name := "actFields", fn := fun _ => fun
  | [d] => { results := [.lit (.bool false)], args := [d] }
  | _ => none }
def ActFieldsWrongFalsely : Prop := actFieldsRow.holds Tryd.pinned (OpenSpec.ofChange actFieldsWrong)

/-- 'agoralaw12.ActAudience': WHATEVER THE INPUT: true; the input reads as it did. -/
def actAudienceSpec : ChangeSpec := { name := "actAudience", fn := fun _ => fun
  | [d1, d2, d3, d4] => { results := [.lit (.bool true)], args := [d1, d2, d3, d4] }
  | _ => none }
def actAudienceRow : OpenClaim := { program := "ytmkjbdimmgkfdaadoor", sum := "173ffd52e60c7ebf9b8f1a74530d0b73c59475502d0f46dde951606a2efcfffc", func := "agora/agoralaw12.ActAudience", spec := "actAudience", inPlace := ["internal/bytealg.IndexByteString", "internal/bytealg.IndexString", "internal/abi.NoEscape", "internal/bytealg.MakeNoZero"], unfollowed := true, recurses := true, named := ["agora/act.kinds", "unicode/utf8.first", "unicode/utf8.acceptRanges", "math/bits.divideError", "math/bits.overflowError", "internal/bytealg.MaxLen"], apart := false, laid := [("unicode/utf8.acceptRanges", laid_unicode_utf8_acceptRanges), ("agora/act.kinds", laid_agora_act_kinds), ("unicode/utf8.first", laid_unicode_utf8_first)] }
def ActAudienceSaid : Prop := actAudienceRow.holds Tryd.pinned (OpenSpec.ofChange actAudienceSpec)

/-- ITS FALSE NEIGHBOUR: 'it returns false'. Refute it at one input. -/
def actAudienceWrong : ChangeSpec := { name := "actAudience", fn := fun _ => fun
  | [d1, d2, d3, d4] => { results := [.lit (.bool false)], args := [d1, d2, d3, d4] }
  | _ => none }
def ActAudienceWrongFalsely : Prop := actAudienceRow.holds Tryd.pinned (OpenSpec.ofChange actAudienceWrong)

/- THE SECOND FORM. 'bulk': how many values and letters a reading holds, each counted each time it is reached (what is shared counts as often as it is met; a slice's spare places count too). A statement '..UptoSaid' is the law's where the arguments, and the package variables that the reading takes, are together of bulk at most 1048576: NARROWER than '..Said'. Prove '..Said' where nothing that the law and all that it calls make is longer than what came in: it says more and counts as full. Else prove '..UptoSaid'. A law counts once. -/
mutual
def uptoBulk {H : Type} : DataW H → Nat
  | .lit (.string bytes) => bytes.length + 1
  | .lit _ => 1
  | .nil => 1
  | .ptr d => uptoBulk d + 1
  | .slice elems spare => uptoBulkAll elems + uptoBulkAll spare + 1
  | .agg parts => uptoBulkAll parts + 1
  | .iface _ d => uptoBulk d + 1
  | .map entries => uptoBulkEntries entries + 1
  | .held _ => 1
def uptoBulkAll {H : Type} : List (DataW H) → Nat
  | [] => 0
  | d :: r => uptoBulk d + uptoBulkAll r
def uptoBulkEntries {H : Type} : List (Lit × DataW H) → Nat
  | [] => 0
  | x :: r => uptoBulkEntry x + uptoBulkEntries r
def uptoBulkEntry {H : Type} : Lit × DataW H → Nat
  | (.string bytes, d) => bytes.length + uptoBulk d + 1
  | (_, d) => uptoBulk d + 1
 end
def uptoSmall : (H : Type) → List (DataW H) → Bool := fun _ ds => decide (uptoBulkAll ds ≤ 1048576)
def OpenSpec.upto (s : _root_.Go.ChangeSpec) : _root_.Go.OpenSpec := { _root_.Go.OpenSpec.ofChange s with cond := some uptoSmall }

/-- 'agoralaw12.ActReads', WHERE WHAT IT READS IS OF BULK AT MOST 1048576: true; the input reads as it did. -/
def actReadsUptoRow : OpenClaim := { program := "ytmkjbdimmgkfdaadoor", sum := "173ffd52e60c7ebf9b8f1a74530d0b73c59475502d0f46dde951606a2efcfffc", func := "agora/agoralaw12.ActReads", spec := "actReads", inPlace := ["internal/bytealg.IndexByteString", "internal/bytealg.IndexString", "internal/abi.NoEscape", "internal/bytealg.MakeNoZero"], unfollowed := true, recurses := true, named := ["agora/act.kinds", "unicode/utf8.first", "unicode/utf8.acceptRanges", "math/bits.divideError", "math/bits.overflowError", "internal/bytealg.MaxLen"], apart := false, laid := [("unicode/utf8.acceptRanges", laid_unicode_utf8_acceptRanges), ("agora/act.kinds", laid_agora_act_kinds), ("unicode/utf8.first", laid_unicode_utf8_first)], narrowed := true }
def ActReadsUptoSaid : Prop := actReadsUptoRow.holds Tryd.pinned (OpenSpec.upto actReadsSpec)

/-- 'agoralaw12.ActBinds', WHERE WHAT IT READS IS OF BULK AT MOST 1048576: true; the input reads as it did. -/
def actBindsUptoRow : OpenClaim := { program := "ytmkjbdimmgkfdaadoor", sum := "173ffd52e60c7ebf9b8f1a74530d0b73c59475502d0f46dde951606a2efcfffc", func := "agora/agoralaw12.ActBinds", spec := "actBinds", inPlace := ["internal/bytealg.IndexByteString", "internal/bytealg.IndexString", "internal/abi.NoEscape", "internal/bytealg.MakeNoZero"], unfollowed := true, recurses := true, named := ["agora/act.kinds", "unicode/utf8.first", "unicode/utf8.acceptRanges", "math/bits.divideError", "math/bits.overflowError", "internal/bytealg.MaxLen"], apart := false, laid := [("unicode/utf8.acceptRanges", laid_unicode_utf8_acceptRanges), ("agora/act.kinds", laid_agora_act_kinds), ("unicode/utf8.first", laid_unicode_utf8_first)], narrowed := true }
def ActBindsUptoSaid : Prop := actBindsUptoRow.holds Tryd.pinned (OpenSpec.upto actBindsSpec)

/-- 'agoralaw12.ActSigns', WHERE WHAT IT READS IS OF BULK AT MOST 1048576: true; the input reads as it did. -/
def actSignsUptoRow : OpenClaim := { program := "ytmkjbdimmgkfdaadoor", sum := "173ffd52e60c7ebf9b8f1a74530d0b73c59475502d0f46dde951606a2efcfffc", func := "agora/agoralaw12.ActSigns", spec := "actSigns", inPlace := ["internal/bytealg.IndexByteString", "internal/bytealg.IndexString", "internal/abi.NoEscape", "internal/bytealg.MakeNoZero"], unfollowed := true, recurses := true, named := ["agora/act.kinds", "unicode/utf8.first", "unicode/utf8.acceptRanges", "math/bits.divideError", "math/bits.overflowError", "internal/bytealg.MaxLen"], apart := false, laid := [("unicode/utf8.acceptRanges", laid_unicode_utf8_acceptRanges), ("agora/act.kinds", laid_agora_act_kinds), ("unicode/utf8.first", laid_unicode_utf8_first)], narrowed := true }
def ActSignsUptoSaid : Prop := actSignsUptoRow.holds Tryd.pinned (OpenSpec.upto actSignsSpec)

/-- 'agoralaw12.ActFields', WHERE WHAT IT READS IS OF BULK AT MOST 1048576: true; the input reads as it did. -/
def actFieldsUptoRow : OpenClaim := { program := "ytmkjbdimmgkfdaadoor", sum := "173ffd52e60c7ebf9b8f1a74530d0b73c59475502d0f46dde951606a2efcfffc", func := "agora/agoralaw12.ActFields", spec := "actFields", inPlace := ["internal/bytealg.IndexByteString", "internal/bytealg.IndexString", "internal/abi.NoEscape", "internal/bytealg.MakeNoZero"], unfollowed := true, recurses := true, named := ["agora/act.kinds", "unicode/utf8.first", "unicode/utf8.acceptRanges", "math/bits.divideError", "math/bits.overflowError", "internal/bytealg.MaxLen"], apart := false, laid := [("unicode/utf8.acceptRanges", laid_unicode_utf8_acceptRanges), ("agora/act.kinds", laid_agora_act_kinds), ("unicode/utf8.first", laid_unicode_utf8_first)], narrowed := true }
def ActFieldsUptoSaid : Prop := actFieldsUptoRow.holds Tryd.pinned (OpenSpec.upto actFieldsSpec)

/-- 'agoralaw12.ActAudience', WHERE WHAT IT READS IS OF BULK AT MOST 1048576: true; the input reads as it did. -/
def actAudienceUptoRow : OpenClaim := { program := "ytmkjbdimmgkfdaadoor", sum := "173ffd52e60c7ebf9b8f1a74530d0b73c59475502d0f46dde951606a2efcfffc", func := "agora/agoralaw12.ActAudience", spec := "actAudience", inPlace := ["internal/bytealg.IndexByteString", "internal/bytealg.IndexString", "internal/abi.NoEscape", "internal/bytealg.MakeNoZero"], unfollowed := true, recurses := true, named := ["agora/act.kinds", "unicode/utf8.first", "unicode/utf8.acceptRanges", "math/bits.divideError", "math/bits.overflowError", "internal/bytealg.MaxLen"], apart := false, laid := [("unicode/utf8.acceptRanges", laid_unicode_utf8_acceptRanges), ("agora/act.kinds", laid_agora_act_kinds), ("unicode/utf8.first", laid_unicode_utf8_first)], narrowed := true }
def ActAudienceUptoSaid : Prop := actAudienceUptoRow.holds Tryd.pinned (OpenSpec.upto actAudienceSpec)

end Rows
end Go.Proofs.YtmkjbdimmgkfdaaDoor
