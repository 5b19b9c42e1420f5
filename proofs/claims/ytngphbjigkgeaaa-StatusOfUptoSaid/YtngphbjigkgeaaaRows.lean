/-
  No cell of these rows narrows 'for every input' (looked for: loops, veiled, ifaces, maps, wideKeys, modest, calm, conditions, laid).
  DERIVED. THE GIVEN ROWS OF THIS SEAT. 4 by the template 'for every input the law returns true; each argument reads behind the call as it read before'; 0 by the template 'total and deterministic' (their statements: YtngphbjigkgeaaaTotals.lean).
  GIVEN WITH THE SEED: the statements are not yours to turn. If you find one false, say at which input.
  Laid BY PROGRAM, IN A SANDBOX (cutbox-rows.mjs): the forced cells as the released guide's own fill.sh prints them over the translation f3be1ad363e2aa34… (all of the seat's roots in one cut). By AI agents, Wed Nov 11 2026. No macro, syntax, notation, axiom, sorry.
-/
import Derived.Test.YtngphbjigkgeaaaChecked
import GoSem.Claim
import GoSem.ClaimJoined
import GoSem.ClaimMapViews
import Derived.JoinedTies
import Derived.KernelRfl
namespace Go.Proofs.Ytngphbjigkgeaaa
/- THE CELL 'sum', in the pinned program and in every row, IS THE sha256 OF THE DUMP (.gsa) THAT YtngphbjigkgeaaaProg.lean LOADS. Nothing in Lean hashes anything: it is a label: what it is worth is what the hold of that sum in a sandbox is worth. -/
noncomputable def Try.pinned : Pinned := { name := "ytngphbjigkgeaaa", sum := "f3be1ad363e2aa34361c3b615c97d4f1f7a81c2a34da8bd1e509ca1a7e6536d2", checked := Try.checked }
namespace Rows
def none {H : Type} : Left H := { results := [], args := [] }

/-- 'chancerylaw20.StatusOf': WHATEVER THE INPUT: true; the input reads as it did. -/
def statusOfSpec : ChangeSpec := { name := "statusOf", fn := fun _ => fun
  | [d1, d2] => { results := [.lit (.bool true)], args := [d1, d2] }
  | _ => none }
def statusOfRow : OpenClaim := { program := "ytngphbjigkgeaaa", sum := "f3be1ad363e2aa34361c3b615c97d4f1f7a81c2a34da8bd1e509ca1a7e6536d2", func := "chancery/chancerylaw20.StatusOf", spec := "statusOf", inPlace := ["internal/bytealg.IndexByteString"], unfollowed := true, recurses := true, apart := false }
def StatusOfSaid : Prop := statusOfRow.holds Try.pinned (OpenSpec.ofChange statusOfSpec)

/-- ITS FALSE NEIGHBOUR: 'it returns false'. Refute it at one input. -/
def statusOfWrong : ChangeSpec := { name := "statusOf", fn := fun _ => fun
  | [d1, d2] => { results := [.lit (.bool false)], args := [d1, d2] }
  | _ => none }
def StatusOfWrongFalsely : Prop := statusOfRow.holds Try.pinned (OpenSpec.ofChange statusOfWrong)

/-- 'chancerylaw11.SignPublics': WHATEVER THE INPUT: true; the input reads as it did. -/
def signPublicsSpec : ChangeSpec := { name := "signPublics", fn := fun _ => fun
  | [d] => { results := [.lit (.bool true)], args := [d] }
  | _ => none }
def signPublicsRow : OpenClaim := { program := "ytngphbjigkgeaaa", sum := "f3be1ad363e2aa34361c3b615c97d4f1f7a81c2a34da8bd1e509ca1a7e6536d2", func := "chancery/chancerylaw11.SignPublics", spec := "signPublics", inPlace := ["internal/bytealg.Compare", "math/bits.Add64", "math/bits.Sub64"], unfollowed := true, recurses := true, apart := false }
def SignPublicsSaid : Prop := signPublicsRow.holds Try.pinned (OpenSpec.ofChange signPublicsSpec)

/-- ITS FALSE NEIGHBOUR: 'it returns false'. Refute it at one input. -/
def signPublicsWrong : ChangeSpec := { name := "signPublics", fn := fun _ => fun
  | [d] => { results := [.lit (.bool false)], args := [d] }
  | _ => none }
def SignPublicsWrongFalsely : Prop := signPublicsRow.holds Try.pinned (OpenSpec.ofChange signPublicsWrong)

/-- 'chancerylaw21.ProfileSpans': WHATEVER THE INPUT: true; the input reads as it did. -/
def profileSpansSpec : ChangeSpec := { name := "profileSpans", fn := fun _ => fun
  | [d1, d2, d3] => { results := [.lit (.bool true)], args := [d1, d2, d3] }
  | _ => none }
def profileSpansRow : OpenClaim := { program := "ytngphbjigkgeaaa", sum := "f3be1ad363e2aa34361c3b615c97d4f1f7a81c2a34da8bd1e509ca1a7e6536d2", func := "chancery/chancerylaw21.ProfileSpans", spec := "profileSpans", unfollowed := true, recurses := true, apart := false }
def ProfileSpansSaid : Prop := profileSpansRow.holds Try.pinned (OpenSpec.ofChange profileSpansSpec)

/-- ITS FALSE NEIGHBOUR: 'it returns false'. Refute it at one input. -/
def profileSpansWrong : ChangeSpec := { name := "profileSpans", fn := fun _ => fun
  | [d1, d2, d3] => { results := [.lit (.bool false)], args := [d1, d2, d3] }
  | _ => none }
def ProfileSpansWrongFalsely : Prop := profileSpansRow.holds Try.pinned (OpenSpec.ofChange profileSpansWrong)

/-- 'chancerylaw16.CertKeys': WHATEVER THE INPUT: true; the input reads as it did. -/
def certKeysSpec : ChangeSpec := { name := "certKeys", fn := fun _ => fun
  | [d1, d2] => { results := [.lit (.bool true)], args := [d1, d2] }
  | _ => none }
def certKeysRow : OpenClaim := { program := "ytngphbjigkgeaaa", sum := "f3be1ad363e2aa34361c3b615c97d4f1f7a81c2a34da8bd1e509ca1a7e6536d2", func := "chancery/chancerylaw16.CertKeys", spec := "certKeys", inPlace := ["math/bits.Add64", "math/bits.Sub64"], apart := false }
def CertKeysSaid : Prop := certKeysRow.holds Try.pinned (OpenSpec.ofChange certKeysSpec)

/-- ITS FALSE NEIGHBOUR: 'it returns false'. Refute it at one input. -/
def certKeysWrong : ChangeSpec := { name := "certKeys", fn := fun _ => fun
  | [d1, d2] => { results := [.lit (.bool false)], args := [d1, d2] }
  | _ => none }
def CertKeysWrongFalsely : Prop := certKeysRow.holds Try.pinned (OpenSpec.ofChange certKeysWrong)

/- THE SECOND FORM. 'bulk': how many values and letters a reading holds, each counted each time it is reached (what is shared counts as often as it is met; a slice's spare places count too). A statement '..UptoSaid' is the law's where the arguments, and the package variables that the reading takes, are together of bulk at most 1048576: NARROWER than '..Said'. Prove '..Said' where nothing that the law and all that it calls make is longer than what came in: it says more and counts as full. Else prove '..UptoSaid'. A law counts once. -/
mutual
def uptoBulk {H : Type} : DataW H → Nat
  | .lit (.string bytes) => bytes.length + 1
  | .lit _ => 1
  | .nil => 1
  | .ptr d => uptoBulk d + 1
  | .slice elems spare => uptoBulkAll elems + uptoBulkAll spare + 1
  | .agg parts => uptoBulkAll parts + 1
  | .iface _ d => uptoBulk d + 1
  | .map entries => uptoBulkEntries entries + 1
  | .held _ => 1
def uptoBulkAll {H : Type} : List (DataW H) → Nat
  | [] => 0
  | d :: r => uptoBulk d + uptoBulkAll r
def uptoBulkEntries {H : Type} : List (Lit × DataW H) → Nat
  | [] => 0
  | x :: r => uptoBulkEntry x + uptoBulkEntries r
def uptoBulkEntry {H : Type} : Lit × DataW H → Nat
  | (.string bytes, d) => bytes.length + uptoBulk d + 1
  | (_, d) => uptoBulk d + 1
 end
def uptoSmall : (H : Type) → List (DataW H) → Bool := fun _ ds => decide (uptoBulkAll ds ≤ 1048576)
def OpenSpec.upto (s : _root_.Go.ChangeSpec) : _root_.Go.OpenSpec := { _root_.Go.OpenSpec.ofChange s with cond := some uptoSmall }

/-- 'chancerylaw20.StatusOf', WHERE WHAT IT READS IS OF BULK AT MOST 1048576: true; the input reads as it did. -/
def statusOfUptoRow : OpenClaim := { program := "ytngphbjigkgeaaa", sum := "f3be1ad363e2aa34361c3b615c97d4f1f7a81c2a34da8bd1e509ca1a7e6536d2", func := "chancery/chancerylaw20.StatusOf", spec := "statusOf", inPlace := ["internal/bytealg.IndexByteString"], unfollowed := true, recurses := true, apart := false, narrowed := true }
def StatusOfUptoSaid : Prop := statusOfUptoRow.holds Try.pinned (OpenSpec.upto statusOfSpec)

/-- 'chancerylaw11.SignPublics', WHERE WHAT IT READS IS OF BULK AT MOST 1048576: true; the input reads as it did. -/
def signPublicsUptoRow : OpenClaim := { program := "ytngphbjigkgeaaa", sum := "f3be1ad363e2aa34361c3b615c97d4f1f7a81c2a34da8bd1e509ca1a7e6536d2", func := "chancery/chancerylaw11.SignPublics", spec := "signPublics", inPlace := ["internal/bytealg.Compare", "math/bits.Add64", "math/bits.Sub64"], unfollowed := true, recurses := true, apart := false, narrowed := true }
def SignPublicsUptoSaid : Prop := signPublicsUptoRow.holds Try.pinned (OpenSpec.upto signPublicsSpec)

/-- 'chancerylaw21.ProfileSpans', WHERE WHAT IT READS IS OF BULK AT MOST 1048576: true; the input reads as it did. -/
def profileSpansUptoRow : OpenClaim := { program := "ytngphbjigkgeaaa", sum := "f3be1ad363e2aa34361c3b615c97d4f1f7a81c2a34da8bd1e509ca1a7e6536d2", func := "chancery/chancerylaw21.ProfileSpans", spec := "profileSpans", unfollowed := true, recurses := true, apart := false, narrowed := true }
def ProfileSpansUptoSaid : Prop := profileSpansUptoRow.holds Try.pinned (OpenSpec.upto profileSpansSpec)

/-- 'chancerylaw16.CertKeys', WHERE WHAT IT READS IS OF BULK AT MOST 1048576: true; the input reads as it did. -/
def certKeysUptoRow : OpenClaim := { program := "ytngphbjigkgeaaa", sum := "f3be1ad363e2aa34361c3b615c97d4f1f7a81c2a34da8bd1e509ca1a7e6536d2", func := "chancery/chancerylaw16.CertKeys", spec := "certKeys", inPlace := ["math/bits.Add64", "math/bits.Sub64"], apart := false, narrowed := true }
def CertKeysUptoSaid : Prop := certKeysUptoRow.holds Try.pinned (OpenSpec.upto certKeysSpec)

end Rows
end Go.Proofs.Ytngphbjigkgeaaa
