/-
  NARROWER THAN 'FOR EVERY INPUT', by the rows' own cells (each row's printed sentence says how): SignCodes: laid · SignOnce: laid · CrlFinds: laid · OcspBodies: laid · OcspAsked: laid · CrlSorts: laid · CrlOrder: laid.
  DERIVED. THE GIVEN ROWS OF THIS SEAT. 7 by the template 'for every input the law returns true; each argument reads behind the call as it read before'; 0 by the template 'total and deterministic' (their statements: YtngphbjigkgeaaaDoorTotals.lean).
  GIVEN WITH THE SEED: the statements are not yours to turn. If you find one false, say at which input.
  Laid BY PROGRAM, IN A SANDBOX (cutbox-rows.mjs): the forced cells as the released guide's own fill.sh prints them over the translation d2b8ac9eaf6b2e00… (all of the seat's roots in one cut). By AI agents, Wed Nov 11 2026. No macro, syntax, notation, axiom, sorry.
-/
import Derived.Test.YtngphbjigkgeaaaDoorChecked
import GoSem.PinnedTables
import GoSem.Claim
import GoSem.ClaimJoined
import GoSem.ClaimMapViews
import Derived.JoinedTies
import Derived.KernelRfl
namespace Go.Proofs.YtngphbjigkgeaaaDoor
/- THE CELL 'sum', in the pinned program and in every row, IS THE sha256 OF THE DUMP (.gsa) THAT YtngphbjigkgeaaaDoorProg.lean LOADS. Nothing in Lean hashes anything: it is a label: what it is worth is what the hold of that sum in a sandbox is worth. -/
noncomputable def Tryd.pinned : Pinned := { name := "ytngphbjigkgeaaadoor", sum := "d2b8ac9eaf6b2e008ae7ff5bf9c351da3989d4a04c17779bfa3b5c2a6fb181cd", checked := Tryd.checked }
namespace Rows
def none {H : Type} : Left H := { results := [], args := [] }

/- WHAT THE LISTED PACKAGE-LEVEL VARIABLES READ AS WHEN THE CALL BEGINS. Each datum BY PROGRAM (the guide's laid-datum.mjs) off the statement by which the dump's own 'gosem.cut.vars' lays the variable. In a bare row this is a premise. The card (YtngphbjigkgeaaaDoorCards.lean) ties it to the program's text. -/
def laid_unicode_utf8_acceptRanges {H : Type} : DataW H := .agg [.agg [.lit (.int .u8 128), .lit (.int .u8 191)], .agg [.lit (.int .u8 160), .lit (.int .u8 191)], .agg [.lit (.int .u8 128), .lit (.int .u8 159)], .agg [.lit (.int .u8 144), .lit (.int .u8 191)], .agg [.lit (.int .u8 128), .lit (.int .u8 143)], .agg [.lit (.int .u8 0), .lit (.int .u8 0)], .agg [.lit (.int .u8 0), .lit (.int .u8 0)], .agg [.lit (.int .u8 0), .lit (.int .u8 0)], .agg [.lit (.int .u8 0), .lit (.int .u8 0)], .agg [.lit (.int .u8 0), .lit (.int .u8 0)], .agg [.lit (.int .u8 0), .lit (.int .u8 0)], .agg [.lit (.int .u8 0), .lit (.int .u8 0)], .agg [.lit (.int .u8 0), .lit (.int .u8 0)], .agg [.lit (.int .u8 0), .lit (.int .u8 0)], .agg [.lit (.int .u8 0), .lit (.int .u8 0)], .agg [.lit (.int .u8 0), .lit (.int .u8 0)]]
/-- One of Go's own tables, pinned by name: the form's constant. -/
def laid_unicode_utf8_first : DataW Unit := Go.Pinned.utf8First

/-- 'chancerylaw11.SignCodes': WHATEVER THE INPUT: true; the input reads as it did. -/
def signCodesSpec : ChangeSpec := { name := "signCodes", fn := fun _ => fun
  | [d1, d2] => { results := [.lit (.bool true)], args := [d1, d2] }
  | _ => none }
def signCodesRow : OpenClaim := { program := "ytngphbjigkgeaaadoor", sum := "d2b8ac9eaf6b2e008ae7ff5bf9c351da3989d4a04c17779bfa3b5c2a6fb181cd", func := "chancery/chancerylaw11.SignCodes", spec := "signCodes", inPlace := ["internal/bytealg.Compare"], unfollowed := true, recurses := true, named := ["unicode/utf8.first", "unicode/utf8.acceptRanges"], apart := false, laid := [("unicode/utf8.acceptRanges", laid_unicode_utf8_acceptRanges), ("unicode/utf8.first", laid_unicode_utf8_first)] }
def SignCodesSaid : Prop := signCodesRow.holds Tryd.pinned (OpenSpec.ofChange signCodesSpec)

/-- ITS FALSE NEIGHBOUR: 'it returns false'. Refute it at one input. -/
def signCodesWrong : ChangeSpec := { name := "signCodes", fn := fun _ => fun
  | [d1, d2] => { results := [.lit (.bool false)], args := [d1, d2] }
  | _ => none }
def SignCodesWrongFalsely : Prop := signCodesRow.holds Tryd.pinned (OpenSpec.ofChange signCodesWrong)

/-- 'chancerylaw11.SignOnce': WHATEVER THE INPUT: true; the input reads as it did. -/
def signOnceSpec : ChangeSpec := { name := "signOnce", fn := fun _ => fun
  | [d] => { results := [.lit (.bool true)], args := [d] }
  | _ => none }
def signOnceRow : OpenClaim := { program := "ytngphbjigkgeaaadoor", sum := "d2b8ac9eaf6b2e008ae7ff5bf9c351da3989d4a04c17779bfa3b5c2a6fb181cd", func := "chancery/chancerylaw11.SignOnce", spec := "signOnce", inPlace := ["internal/bytealg.Compare"], unfollowed := true, recurses := true, named := ["unicode/utf8.first", "unicode/utf8.acceptRanges"], apart := false, laid := [("unicode/utf8.acceptRanges", laid_unicode_utf8_acceptRanges), ("unicode/utf8.first", laid_unicode_utf8_first)] }
def SignOnceSaid : Prop := signOnceRow.holds Tryd.pinned (OpenSpec.ofChange signOnceSpec)

/-- ITS FALSE NEIGHBOUR: 'it returns false'. Refute it at one input. -/
def signOnceWrong : ChangeSpec := { name := "signOnce", fn := fun _ => fun
  | [d] => { results := [.lit (.bool false)], args := [d] }
  | _ => none }
def SignOnceWrongFalsely : Prop := signOnceRow.holds Tryd.pinned (OpenSpec.ofChange signOnceWrong)

/-- 'chancerylaw18.CrlFinds': WHATEVER THE INPUT: true; the input reads as it did. -/
def crlFindsSpec : ChangeSpec := { name := "crlFinds", fn := fun _ => fun
  | [d1, d2, d3] => { results := [.lit (.bool true)], args := [d1, d2, d3] }
  | _ => none }
def crlFindsRow : OpenClaim := { program := "ytngphbjigkgeaaadoor", sum := "d2b8ac9eaf6b2e008ae7ff5bf9c351da3989d4a04c17779bfa3b5c2a6fb181cd", func := "chancery/chancerylaw18.CrlFinds", spec := "crlFinds", inPlace := ["internal/bytealg.Compare", "internal/bytealg.IndexByteString"], named := ["unicode/utf8.first", "unicode/utf8.acceptRanges"], apart := false, laid := [("unicode/utf8.acceptRanges", laid_unicode_utf8_acceptRanges), ("unicode/utf8.first", laid_unicode_utf8_first)] }
def CrlFindsSaid : Prop := crlFindsRow.holds Tryd.pinned (OpenSpec.ofChange crlFindsSpec)

/-- ITS FALSE NEIGHBOUR: 'it returns false'. Refute it at one input. -/
def crlFindsWrong : ChangeSpec := { name := "crlFinds", fn := fun _ => fun
  | [d1, d2, d3] => { results := [.lit (.bool false)], args := [d1, d2, d3] }
  | _ => none }
def CrlFindsWrongFalsely : Prop := crlFindsRow.holds Tryd.pinned (OpenSpec.ofChange crlFindsWrong)

/-- 'chancerylaw28.OcspBodies': WHATEVER THE INPUT: true; the input reads as it did. -/
def ocspBodiesSpec : ChangeSpec := { name := "ocspBodies", fn := fun _ => fun
  | [d1, d2] => { results := [.lit (.bool true)], args := [d1, d2] }
  | _ => none }
def ocspBodiesRow : OpenClaim := { program := "ytngphbjigkgeaaadoor", sum := "d2b8ac9eaf6b2e008ae7ff5bf9c351da3989d4a04c17779bfa3b5c2a6fb181cd", func := "chancery/chancerylaw28.OcspBodies", spec := "ocspBodies", unfollowed := true, recurses := true, named := ["unicode/utf8.first", "unicode/utf8.acceptRanges"], apart := false, laid := [("unicode/utf8.acceptRanges", laid_unicode_utf8_acceptRanges), ("unicode/utf8.first", laid_unicode_utf8_first)] }
def OcspBodiesSaid : Prop := ocspBodiesRow.holds Tryd.pinned (OpenSpec.ofChange ocspBodiesSpec)

/-- ITS FALSE NEIGHBOUR: 'it returns false'. Refute it at one input. -/
def ocspBodiesWrong : ChangeSpec := { name := "ocspBodies", fn := fun _ => fun
  | [d1, d2] => { results := [.lit (.bool false)], args := [d1, d2] }
  | _ => none }
def OcspBodiesWrongFalsely : Prop := ocspBodiesRow.holds Tryd.pinned (OpenSpec.ofChange ocspBodiesWrong)

/-- 'chancerylaw28.OcspAsked': WHATEVER THE INPUT: true; the input reads as it did. -/
def ocspAskedSpec : ChangeSpec := { name := "ocspAsked", fn := fun _ => fun
  | [d] => { results := [.lit (.bool true)], args := [d] }
  | _ => none }
def ocspAskedRow : OpenClaim := { program := "ytngphbjigkgeaaadoor", sum := "d2b8ac9eaf6b2e008ae7ff5bf9c351da3989d4a04c17779bfa3b5c2a6fb181cd", func := "chancery/chancerylaw28.OcspAsked", spec := "ocspAsked", unfollowed := true, recurses := true, named := ["unicode/utf8.first", "unicode/utf8.acceptRanges"], apart := false, laid := [("unicode/utf8.acceptRanges", laid_unicode_utf8_acceptRanges), ("unicode/utf8.first", laid_unicode_utf8_first)] }
def OcspAskedSaid : Prop := ocspAskedRow.holds Tryd.pinned (OpenSpec.ofChange ocspAskedSpec)

/-- ITS FALSE NEIGHBOUR: 'it returns false'. Refute it at one input. -/
def ocspAskedWrong : ChangeSpec := { name := "ocspAsked", fn := fun _ => fun
  | [d] => { results := [.lit (.bool false)], args := [d] }
  | _ => none }
def OcspAskedWrongFalsely : Prop := ocspAskedRow.holds Tryd.pinned (OpenSpec.ofChange ocspAskedWrong)

/-- 'chancerylaw18.CrlSorts': WHATEVER THE INPUT: true; the input reads as it did. -/
def crlSortsSpec : ChangeSpec := { name := "crlSorts", fn := fun _ => fun
  | [d] => { results := [.lit (.bool true)], args := [d] }
  | _ => none }
def crlSortsRow : OpenClaim := { program := "ytngphbjigkgeaaadoor", sum := "d2b8ac9eaf6b2e008ae7ff5bf9c351da3989d4a04c17779bfa3b5c2a6fb181cd", func := "chancery/chancerylaw18.CrlSorts", spec := "crlSorts", inPlace := ["internal/bytealg.IndexByteString", "internal/bytealg.Compare"], unfollowed := true, recurses := true, named := ["unicode/utf8.first", "unicode/utf8.acceptRanges"], apart := false, laid := [("unicode/utf8.acceptRanges", laid_unicode_utf8_acceptRanges), ("unicode/utf8.first", laid_unicode_utf8_first)] }
def CrlSortsSaid : Prop := crlSortsRow.holds Tryd.pinned (OpenSpec.ofChange crlSortsSpec)

/-- ITS FALSE NEIGHBOUR: 'it returns false'. Refute it at one input. -/
def crlSortsWrong : ChangeSpec := { name := "crlSorts", fn := fun _ => fun
  | [d] => { results := [.lit (.bool false)], args := [d] }
  | _ => none }
def CrlSortsWrongFalsely : Prop := crlSortsRow.holds Tryd.pinned (OpenSpec.ofChange crlSortsWrong)

/-- 'chancerylaw18.CrlOrder': WHATEVER THE INPUT: true; the input reads as it did. -/
def crlOrderSpec : ChangeSpec := { name := "crlOrder", fn := fun _ => fun
  | [d1, d2, d3, d4] => { results := [.lit (.bool true)], args := [d1, d2, d3, d4] }
  | _ => none }
def crlOrderRow : OpenClaim := { program := "ytngphbjigkgeaaadoor", sum := "d2b8ac9eaf6b2e008ae7ff5bf9c351da3989d4a04c17779bfa3b5c2a6fb181cd", func := "chancery/chancerylaw18.CrlOrder", spec := "crlOrder", inPlace := ["internal/bytealg.Compare", "internal/bytealg.IndexByteString"], unfollowed := true, recurses := true, named := ["unicode/utf8.first", "unicode/utf8.acceptRanges"], apart := false, laid := [("unicode/utf8.acceptRanges", laid_unicode_utf8_acceptRanges), ("unicode/utf8.first", laid_unicode_utf8_first)] }
def CrlOrderSaid : Prop := crlOrderRow.holds Tryd.pinned (OpenSpec.ofChange crlOrderSpec)

/-- ITS FALSE NEIGHBOUR: 'it returns false'. Refute it at one input. -/
def crlOrderWrong : ChangeSpec := { name := "crlOrder", fn := fun _ => fun
  | [d1, d2, d3, d4] => { results := [.lit (.bool false)], args := [d1, d2, d3, d4] }
  | _ => none }
def CrlOrderWrongFalsely : Prop := crlOrderRow.holds Tryd.pinned (OpenSpec.ofChange crlOrderWrong)

/- THE SECOND FORM. 'bulk': how many values and letters a reading holds, each counted each time it is reached (what is shared counts as often as it is met; a slice's spare places count too). A statement '..UptoSaid' is the law's where the arguments, and the package variables that the reading takes, are together of bulk at most 1048576: NARROWER than '..Said'. Prove '..Said' where nothing that the law and all that it calls make is longer than what came in: it says more and counts as full. Else prove '..UptoSaid'. A law counts once. -/
mutual
def uptoBulk {H : Type} : DataW H → Nat
  | .lit (.string bytes) => bytes.length + 1
  | .lit _ => 1
  | .nil => 1
  | .ptr d => uptoBulk d + 1
  | .slice elems spare => uptoBulkAll elems + uptoBulkAll spare + 1
  | .agg parts => uptoBulkAll parts + 1
  | .iface _ d => uptoBulk d + 1
  | .map entries => uptoBulkEntries entries + 1
  | .held _ => 1
def uptoBulkAll {H : Type} : List (DataW H) → Nat
  | [] => 0
  | d :: r => uptoBulk d + uptoBulkAll r
def uptoBulkEntries {H : Type} : List (Lit × DataW H) → Nat
  | [] => 0
  | x :: r => uptoBulkEntry x + uptoBulkEntries r
def uptoBulkEntry {H : Type} : Lit × DataW H → Nat
  | (.string bytes, d) => bytes.length + uptoBulk d + 1
  | (_, d) => uptoBulk d + 1
 end
def uptoSmall : (H : Type) → List (DataW H) → Bool := fun _ ds => decide (uptoBulkAll ds ≤ 1048576)
def OpenSpec.upto (s : _root_.Go.ChangeSpec) : _root_.Go.OpenSpec := { _root_.Go.OpenSpec.ofChange s with cond := some uptoSmall }

/-- 'chancerylaw11.SignCodes', WHERE WHAT IT READS IS OF BULK AT MOST 1048576: true; the input reads as it did. -/
def signCodesUptoRow : OpenClaim := { program := "ytngphbjigkgeaaadoor", sum := "d2b8ac9eaf6b2e008ae7ff5bf9c351da3989d4a04c17779bfa3b5c2a6fb181cd", func := "chancery/chancerylaw11.SignCodes", spec := "signCodes", inPlace := ["internal/bytealg.Compare"], unfollowed := true, recurses := true, named := ["unicode/utf8.first", "unicode/utf8.acceptRanges"], apart := false, laid := [("unicode/utf8.acceptRanges", laid_unicode_utf8_acceptRanges), ("unicode/utf8.first", laid_unicode_utf8_first)], narrowed := true }
def SignCodesUptoSaid : Prop := signCodesUptoRow.holds Tryd.pinned (OpenSpec.upto signCodesSpec)

/-- 'chancerylaw11.SignOnce', WHERE WHAT IT READS IS OF BULK AT MOST 1048576: true; the input reads as it did. -/
def signOnceUptoRow : OpenClaim := { program := "ytngphbjigkgeaaadoor", sum := "d2b8ac9eaf6b2e008ae7ff5bf9c351da3989d4a04c17779bfa3b5c2a6fb181cd", func := "chancery/chancerylaw11.SignOnce", spec := "signOnce", inPlace := ["internal/bytealg.Compare"], unfollowed := true, recurses := true, named := ["unicode/utf8.first", "unicode/utf8.acceptRanges"], apart := false, laid := [("unicode/utf8.acceptRanges", laid_unicode_utf8_acceptRanges), ("unicode/utf8.first", laid_unicode_utf8_first)], narrowed := true }
def SignOnceUptoSaid : Prop := signOnceUptoRow.holds Tryd.pinned (OpenSpec.upto signOnceSpec)

/-- 'chancerylaw18.CrlFinds', WHERE WHAT IT READS IS OF BULK AT MOST 1048576: true; the input reads as it did. -/
def crlFindsUptoRow : OpenClaim := { program := "ytngphbjigkgeaaadoor", sum := "d2b8ac9eaf6b2e008ae7ff5bf9c351da3989d4a04c17779bfa3b5c2a6fb181cd", func := "chancery/chancerylaw18.CrlFinds", spec := "crlFinds", inPlace := ["internal/bytealg.Compare", "internal/bytealg.IndexByteString"], named := ["unicode/utf8.first", "unicode/utf8.acceptRanges"], apart := false, laid := [("unicode/utf8.acceptRanges", laid_unicode_utf8_acceptRanges), ("unicode/utf8.first", laid_unicode_utf8_first)], narrowed := true }
def CrlFindsUptoSaid : Prop := crlFindsUptoRow.holds Tryd.pinned (OpenSpec.upto crlFindsSpec)

/-- 'chancerylaw28.OcspBodies', WHERE WHAT IT READS IS OF BULK AT MOST 1048576: true; the input reads as it did. -/
def ocspBodiesUptoRow : OpenClaim := { program := "ytngphbjigkgeaaadoor", sum := "d2b8ac9eaf6b2e008ae7ff5bf9c351da3989d4a04c17779bfa3b5c2a6fb181cd", func := "chancery/chancerylaw28.OcspBodies", spec := "ocspBodies", unfollowed := true, recurses := true, named := ["unicode/utf8.first", "unicode/utf8.acceptRanges"], apart := false, laid := [("unicode/utf8.acceptRanges", laid_unicode_utf8_acceptRanges), ("unicode/utf8.first", laid_unicode_utf8_first)], narrowed := true }
def OcspBodiesUptoSaid : Prop := ocspBodiesUptoRow.holds Tryd.pinned (OpenSpec.upto ocspBodiesSpec)

/-- 'chancerylaw28.OcspAsked', WHERE WHAT IT READS IS OF BULK AT MOST 1048576: true; the input reads as it did. -/
def ocspAskedUptoRow : OpenClaim := { program := "ytngphbjigkgeaaadoor", sum := "d2b8ac9eaf6b2e008ae7ff5bf9c351da3989d4a04c17779bfa3b5c2a6fb181cd", func := "chancery/chancerylaw28.OcspAsked", spec := "ocspAsked", unfollowed := true, recurses := true, named := ["unicode/utf8.first", "unicode/utf8.acceptRanges"], apart := false, laid := [("unicode/utf8.acceptRanges", laid_unicode_utf8_acceptRanges), ("unicode/utf8.first", laid_unicode_utf8_first)], narrowed := true }
def OcspAskedUptoSaid : Prop := ocspAskedUptoRow.holds Tryd.pinned (OpenSpec.upto ocspAskedSpec)

/-- 'chancerylaw18.CrlSorts', WHERE WHAT IT READS IS OF BULK AT MOST 1048576: true; the input reads as it did. -/
def crlSortsUptoRow : OpenClaim := { program := "ytngphbjigkgeaaadoor", sum := "d2b8ac9eaf6b2e008ae7ff5bf9c351da3989d4a04c17779bfa3b5c2a6fb181cd", func := "chancery/chancerylaw18.CrlSorts", spec := "crlSorts", inPlace := ["internal/bytealg.IndexByteString", "internal/bytealg.Compare"], unfollowed := true, recurses := true, named := ["unicode/utf8.first", "unicode/utf8.acceptRanges"], apart := false, laid := [("unicode/utf8.acceptRanges", laid_unicode_utf8_acceptRanges), ("unicode/utf8.first", laid_unicode_utf8_first)], narrowed := true }
def CrlSortsUptoSaid : Prop := crlSortsUptoRow.holds Tryd.pinned (OpenSpec.upto crlSortsSpec)

/-- 'chancerylaw18.CrlOrder', WHERE WHAT IT READS IS OF BULK AT MOST 1048576: true; the input reads as it did. -/
def crlOrderUptoRow : OpenClaim := { program := "ytngphbjigkgeaaadoor", sum := "d2b8ac9eaf6b2e008ae7ff5bf9c351da3989d4a04c17779bfa3b5c2a6fb181cd", func := "chancery/chancerylaw18.CrlOrder", spec := "crlOrder", inPlace := ["internal/bytealg.Compare", "internal/bytealg.IndexByteString"], unfollowed := true, recurses := true, named := ["unicode/utf8.first", "unicode/utf8.acceptRanges"], apart := false, laid := [("unicode/utf8.acceptRanges", laid_unicode_utf8_acceptRanges), ("unicode/utf8.first", laid_unicode_utf8_first)], narrowed := true }
def CrlOrderUptoSaid : Prop := crlOrderUptoRow.holds Tryd.pinned (OpenSpec.upto crlOrderSpec)

end Rows
end Go.Proofs.YtngphbjigkgeaaaDoor
