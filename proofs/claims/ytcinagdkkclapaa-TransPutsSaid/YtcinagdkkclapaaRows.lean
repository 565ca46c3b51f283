/-
  No cell of these rows narrows 'for every input' (looked for: loops, veiled, ifaces, maps, wideKeys, modest, calm, conditions, laid).
  DERIVED. THE GIVEN ROWS OF THIS SEAT. 4 by the template 'for every input the law returns true; each argument reads behind the call as it read before'; 0 by the template 'total and deterministic' (their statements: YtcinagdkkclapaaTotals.lean).
  GIVEN WITH THE SEED: the statements are not yours to turn. If you find one false, say at which input.
  Laid BY PROGRAM, IN A SANDBOX (cutbox-rows.mjs): the forced cells as the released guide's own fill.sh prints them over the translation 979193ce808525e7… (all of the seat's roots in one cut). By AI agents, Wed Nov 11 2026. No macro, syntax, notation, axiom, sorry.
-/
import Derived.Test.YtcinagdkkclapaaChecked
import GoSem.Claim
import GoSem.ClaimJoined
import GoSem.ClaimMapViews
import Derived.JoinedTies
import Derived.KernelRfl
namespace Go.Proofs.Ytcinagdkkclapaa
/- THE CELL 'sum', in the pinned program and in every row, IS THE sha256 OF THE DUMP (.gsa) THAT YtcinagdkkclapaaProg.lean LOADS. Nothing in Lean hashes anything: it is a label: what it is worth is what the hold of that sum in a sandbox is worth. -/
noncomputable def Try.pinned : Pinned := { name := "ytcinagdkkclapaa", sum := "979193ce808525e741cd14a950e415725e1248e89e19a0cb85272dc395f2b994", checked := Try.checked }
namespace Rows
def none {H : Type} : Left H := { results := [], args := [] }

/-- 'octroilaw07.TransPuts': WHATEVER THE INPUT: true; the input reads as it did. -/
def transPutsSpec : ChangeSpec := { name := "transPuts", fn := fun _ => fun
  | [d1, d2, d3, d4, d5] => { results := [.lit (.bool true)], args := [d1, d2, d3, d4, d5] }
  | _ => none }
def transPutsRow : OpenClaim := { program := "ytcinagdkkclapaa", sum := "979193ce808525e741cd14a950e415725e1248e89e19a0cb85272dc395f2b994", func := "octroi/octroilaw07.TransPuts", spec := "transPuts", unfollowed := true, recurses := true, apart := false }
def TransPutsSaid : Prop := transPutsRow.holds Try.pinned (OpenSpec.ofChange transPutsSpec)

/-- ITS FALSE NEIGHBOUR: 'it returns false'. Refute it at one input. -/
def transPutsWrong : ChangeSpec := { name := "transPuts", fn := fun _ => fun
  | [d1, d2, d3, d4, d5] => { results := [.lit (.bool false)], args := [d1, d2, d3, d4, d5] }
  | _ => none }
def TransPutsWrongFalsely : Prop := transPutsRow.holds Try.pinned (OpenSpec.ofChange transPutsWrong)

/-- 'octroilaw07.TransParses': WHATEVER THE INPUT: true; the input reads as it did. -/
def transParsesSpec : ChangeSpec := { name := "transParses", fn := fun _ => fun
  | [d1, d2, d3, d4] => { results := [.lit (.bool true)], args := [d1, d2, d3, d4] }
  | _ => none }
def transParsesRow : OpenClaim := { program := "ytcinagdkkclapaa", sum := "979193ce808525e741cd14a950e415725e1248e89e19a0cb85272dc395f2b994", func := "octroi/octroilaw07.TransParses", spec := "transParses", unfollowed := true, recurses := true, apart := false }
def TransParsesSaid : Prop := transParsesRow.holds Try.pinned (OpenSpec.ofChange transParsesSpec)

/-- ITS FALSE NEIGHBOUR: 'it returns false'. Refute it at one input. -/
def transParsesWrong : ChangeSpec := { name := "transParses", fn := fun _ => fun
  | [d1, d2, d3, d4] => { results := [.lit (.bool false)], args := [d1, d2, d3, d4] }
  | _ => none }
def TransParsesWrongFalsely : Prop := transParsesRow.holds Try.pinned (OpenSpec.ofChange transParsesWrong)

/-- 'octroilaw07.TransBack': WHATEVER THE INPUT: true; the input reads as it did. -/
def transBackSpec : ChangeSpec := { name := "transBack", fn := fun _ => fun
  | [d1, d2, d3, d4, d5] => { results := [.lit (.bool true)], args := [d1, d2, d3, d4, d5] }
  | _ => none }
def transBackRow : OpenClaim := { program := "ytcinagdkkclapaa", sum := "979193ce808525e741cd14a950e415725e1248e89e19a0cb85272dc395f2b994", func := "octroi/octroilaw07.TransBack", spec := "transBack", unfollowed := true, recurses := true, apart := false }
def TransBackSaid : Prop := transBackRow.holds Try.pinned (OpenSpec.ofChange transBackSpec)

/-- ITS FALSE NEIGHBOUR: 'it returns false'. Refute it at one input. -/
def transBackWrong : ChangeSpec := { name := "transBack", fn := fun _ => fun
  | [d1, d2, d3, d4, d5] => { results := [.lit (.bool false)], args := [d1, d2, d3, d4, d5] }
  | _ => none }
def TransBackWrongFalsely : Prop := transBackRow.holds Try.pinned (OpenSpec.ofChange transBackWrong)

/-- 'octroilaw07.TransKnown': WHATEVER THE INPUT: true; the input reads as it did. -/
def transKnownSpec : ChangeSpec := { name := "transKnown", fn := fun _ => fun
  | [] => { results := [.lit (.bool true)], args := [] }
  | _ => none }
def transKnownRow : OpenClaim := { program := "ytcinagdkkclapaa", sum := "979193ce808525e741cd14a950e415725e1248e89e19a0cb85272dc395f2b994", func := "octroi/octroilaw07.TransKnown", spec := "transKnown", unfollowed := true, recurses := true, apart := false }
def TransKnownSaid : Prop := transKnownRow.holds Try.pinned (OpenSpec.ofChange transKnownSpec)

/-- ITS FALSE NEIGHBOUR: 'it returns false'. Refute it at one input. -/
def transKnownWrong : ChangeSpec := { name := "transKnown", fn := fun _ => fun
  | [] => { results := [.lit (.bool false)], args := [] }
  | _ => none }
def TransKnownWrongFalsely : Prop := transKnownRow.holds Try.pinned (OpenSpec.ofChange transKnownWrong)

/- THE SECOND FORM. 'bulk': how many values and letters a reading holds, each counted each time it is reached (what is shared counts as often as it is met; a slice's spare places count too). A statement '..UptoSaid' is the law's where the arguments, and the package variables that the reading takes, are together of bulk at most 1048576: NARROWER than '..Said'. Prove '..Said' where nothing that the law and all that it calls make is longer than what came in: it says more and counts as full. Else prove '..UptoSaid'. A law counts once. -/
mutual
def uptoBulk {H : Type} : DataW H → Nat
  | .lit (.string bytes) => bytes.length + 1
  | .lit _ => 1
  | .nil => 1
  | .ptr d => uptoBulk d + 1
  | .slice elems spare => uptoBulkAll elems + uptoBulkAll spare + 1
  | .agg parts => uptoBulkAll parts + 1
  | .iface _ d => uptoBulk d + 1
  | .map entries => uptoBulkEntries entries + 1
  | .held _ => 1
def uptoBulkAll {H : Type} : List (DataW H) → Nat
  | [] => 0
  | d :: r => uptoBulk d + uptoBulkAll r
def uptoBulkEntries {H : Type} : List (Lit × DataW H) → Nat
  | [] => 0
  | x :: r => uptoBulkEntry x + uptoBulkEntries r
def uptoBulkEntry {H : Type} : Lit × DataW H → Nat
  | (.string bytes, d) => bytes.length + uptoBulk d + 1
  | (_, d) => uptoBulk d + 1
 end
def uptoSmall : (H : Type) → List (DataW H) → Bool := fun _ ds => decide (uptoBulkAll ds ≤ 1048576)
def OpenSpec.upto (s : _root_.Go.ChangeSpec) : _root_.Go.OpenSpec := { _root_.Go.OpenSpec.ofChange s with cond := some uptoSmall }

/-- 'octroilaw07.TransPuts', WHERE WHAT IT READS IS OF BULK AT MOST 1048576: true; the input reads as it did. -/
def transPutsUptoRow : OpenClaim := { program := "ytcinagdkkclapaa", sum := "979193ce808525e741cd14a950e415725e1248e89e19a0cb85272dc395f2b994", func := "octroi/octroilaw07.TransPuts", spec := "transPuts", unfollowed := true, recurses := true, apart := false, narrowed := true }
def TransPutsUptoSaid : Prop := transPutsUptoRow.holds Try.pinned (OpenSpec.upto transPutsSpec)

/-- 'octroilaw07.TransParses', WHERE WHAT IT READS IS OF BULK AT MOST 1048576: true; the input reads as it did. -/
def transParsesUptoRow : OpenClaim := { program := "ytcinagdkkclapaa", sum := "979193ce808525e741cd14a950e415725e1248e89e19a0cb85272dc395f2b994", func := "octroi/octroilaw07.TransParses", spec := "transParses", unfollowed := true, recurses := true, apart := false, narrowed := true }
def TransParsesUptoSaid : Prop := transParsesUptoRow.holds Try.pinned (OpenSpec.upto transParsesSpec)

/-- 'octroilaw07.TransBack', WHERE WHAT IT READS IS OF BULK AT MOST 1048576: true; the input reads as it did. -/
def transBackUptoRow : OpenClaim := { program := "ytcinagdkkclapaa", sum := "979193ce808525e741cd14a950e415725e1248e89e19a0cb85272dc395f2b994", func := "octroi/octroilaw07.TransBack", spec := "transBack", unfollowed := true, recurses := true, apart := false, narrowed := true }
def TransBackUptoSaid : Prop := transBackUptoRow.holds Try.pinned (OpenSpec.upto transBackSpec)

/-- 'octroilaw07.TransKnown', WHERE WHAT IT READS IS OF BULK AT MOST 1048576: true; the input reads as it did. -/
def transKnownUptoRow : OpenClaim := { program := "ytcinagdkkclapaa", sum := "979193ce808525e741cd14a950e415725e1248e89e19a0cb85272dc395f2b994", func := "octroi/octroilaw07.TransKnown", spec := "transKnown", unfollowed := true, recurses := true, apart := false, narrowed := true }
def TransKnownUptoSaid : Prop := transKnownUptoRow.holds Try.pinned (OpenSpec.upto transKnownSpec)

end Rows
end Go.Proofs.Ytcinagdkkclapaa
