/-
  No cell of these rows narrows 'for every input' (looked for: loops, veiled, ifaces, maps, wideKeys, modest, calm, conditions, laid).
  DERIVED. THE GIVEN ROWS OF THIS SEAT. 5 by the template 'for every input the law returns true; each argument reads behind the call as it read before'; 0 by the template 'total and deterministic' (their statements: YtikjomacnbemhaaTotals.lean).
  GIVEN WITH THE SEED: the statements are not yours to turn. If you find one false, say at which input.
  Laid BY PROGRAM, IN A SANDBOX (cutbox-rows.mjs): the forced cells as the released guide's own fill.sh prints them over the translation 391453e8c06435a9… (all of the seat's roots in one cut). By AI agents, Wed Nov 11 2026. No macro, syntax, notation, axiom, sorry.
-/
import Derived.Test.YtikjomacnbemhaaChecked
import GoSem.Claim
import GoSem.ClaimJoined
import GoSem.ClaimMapViews
import Derived.JoinedTies
import Derived.KernelRfl
namespace Go.Proofs.Ytikjomacnbemhaa
/- THE CELL 'sum', in the pinned program and in every row, IS THE sha256 OF THE DUMP (.gsa) THAT YtikjomacnbemhaaProg.lean LOADS. Nothing in Lean hashes anything: it is a label: what it is worth is what the hold of that sum in a sandbox is worth. -/
noncomputable def Try.pinned : Pinned := { name := "ytikjomacnbemhaa", sum := "391453e8c06435a98e2f338d37950f92e4dbf60a4631814908424a1305191417", checked := Try.checked }
namespace Rows
def none {H : Type} : Left H := { results := [], args := [] }

/-- 'octroilaw06.IpsixChains': WHATEVER THE INPUT: true; the input reads as it did. -/
def ipsixChainsSpec : ChangeSpec := { name := "ipsixChains", fn := fun _ => fun
  | [d1, d2] => { results := [.lit (.bool true)], args := [d1, d2] }
  | _ => none }
def ipsixChainsRow : OpenClaim := { program := "ytikjomacnbemhaa", sum := "391453e8c06435a98e2f338d37950f92e4dbf60a4631814908424a1305191417", func := "octroi/octroilaw06.IpsixChains", spec := "ipsixChains", unfollowed := true, recurses := true, apart := false }
def IpsixChainsSaid : Prop := ipsixChainsRow.holds Try.pinned (OpenSpec.ofChange ipsixChainsSpec)

/-- ITS FALSE NEIGHBOUR: 'it returns false'. Refute it at one input. -/
def ipsixChainsWrong : ChangeSpec := { name := "ipsixChains", fn := fun _ => fun
  | [d1, d2] => { results := [.lit (.bool false)], args := [d1, d2] }
  | _ => none }
def IpsixChainsWrongFalsely : Prop := ipsixChainsRow.holds Try.pinned (OpenSpec.ofChange ipsixChainsWrong)

/-- 'octroilaw06.IpsixParses': WHATEVER THE INPUT: true; the input reads as it did. -/
def ipsixParsesSpec : ChangeSpec := { name := "ipsixParses", fn := fun _ => fun
  | [d1, d2] => { results := [.lit (.bool true)], args := [d1, d2] }
  | _ => none }
def ipsixParsesRow : OpenClaim := { program := "ytikjomacnbemhaa", sum := "391453e8c06435a98e2f338d37950f92e4dbf60a4631814908424a1305191417", func := "octroi/octroilaw06.IpsixParses", spec := "ipsixParses", unfollowed := true, recurses := true, apart := false }
def IpsixParsesSaid : Prop := ipsixParsesRow.holds Try.pinned (OpenSpec.ofChange ipsixParsesSpec)

/-- ITS FALSE NEIGHBOUR: 'it returns false'. Refute it at one input. -/
def ipsixParsesWrong : ChangeSpec := { name := "ipsixParses", fn := fun _ => fun
  | [d1, d2] => { results := [.lit (.bool false)], args := [d1, d2] }
  | _ => none }
def IpsixParsesWrongFalsely : Prop := ipsixParsesRow.holds Try.pinned (OpenSpec.ofChange ipsixParsesWrong)

/-- 'octroilaw06.IpsixHeads': WHATEVER THE INPUT: true; the input reads as it did. -/
def ipsixHeadsSpec : ChangeSpec := { name := "ipsixHeads", fn := fun _ => fun
  | [d1, d2] => { results := [.lit (.bool true)], args := [d1, d2] }
  | _ => none }
def ipsixHeadsRow : OpenClaim := { program := "ytikjomacnbemhaa", sum := "391453e8c06435a98e2f338d37950f92e4dbf60a4631814908424a1305191417", func := "octroi/octroilaw06.IpsixHeads", spec := "ipsixHeads", unfollowed := true, recurses := true, apart := false }
def IpsixHeadsSaid : Prop := ipsixHeadsRow.holds Try.pinned (OpenSpec.ofChange ipsixHeadsSpec)

/-- ITS FALSE NEIGHBOUR: 'it returns false'. Refute it at one input. -/
def ipsixHeadsWrong : ChangeSpec := { name := "ipsixHeads", fn := fun _ => fun
  | [d1, d2] => { results := [.lit (.bool false)], args := [d1, d2] }
  | _ => none }
def IpsixHeadsWrongFalsely : Prop := ipsixHeadsRow.holds Try.pinned (OpenSpec.ofChange ipsixHeadsWrong)

/-- 'octroilaw06.IpsixBack': WHATEVER THE INPUT: true; the input reads as it did. -/
def ipsixBackSpec : ChangeSpec := { name := "ipsixBack", fn := fun _ => fun
  | [d1, d2, d3, d4, d5] => { results := [.lit (.bool true)], args := [d1, d2, d3, d4, d5] }
  | _ => none }
def ipsixBackRow : OpenClaim := { program := "ytikjomacnbemhaa", sum := "391453e8c06435a98e2f338d37950f92e4dbf60a4631814908424a1305191417", func := "octroi/octroilaw06.IpsixBack", spec := "ipsixBack", unfollowed := true, recurses := true, apart := false }
def IpsixBackSaid : Prop := ipsixBackRow.holds Try.pinned (OpenSpec.ofChange ipsixBackSpec)

/-- ITS FALSE NEIGHBOUR: 'it returns false'. Refute it at one input. -/
def ipsixBackWrong : ChangeSpec := { name := "ipsixBack", fn := fun _ => fun
  | [d1, d2, d3, d4, d5] => { results := [.lit (.bool false)], args := [d1, d2, d3, d4, d5] }
  | _ => none }
def IpsixBackWrongFalsely : Prop := ipsixBackRow.holds Try.pinned (OpenSpec.ofChange ipsixBackWrong)

/-- 'octroilaw06.IpsixKnown': WHATEVER THE INPUT: true; the input reads as it did. -/
def ipsixKnownSpec : ChangeSpec := { name := "ipsixKnown", fn := fun _ => fun
  | [] => { results := [.lit (.bool true)], args := [] }
  | _ => none }
def ipsixKnownRow : OpenClaim := { program := "ytikjomacnbemhaa", sum := "391453e8c06435a98e2f338d37950f92e4dbf60a4631814908424a1305191417", func := "octroi/octroilaw06.IpsixKnown", spec := "ipsixKnown", unfollowed := true, recurses := true, apart := false }
def IpsixKnownSaid : Prop := ipsixKnownRow.holds Try.pinned (OpenSpec.ofChange ipsixKnownSpec)

/-- ITS FALSE NEIGHBOUR: 'it returns false'. Refute it at one input. -/
def ipsixKnownWrong : ChangeSpec := { name := "ipsixKnown", fn := fun _ => fun
  | [] => { results := [.lit (.bool false)], args := [] }
  | _ => none }
def IpsixKnownWrongFalsely : Prop := ipsixKnownRow.holds Try.pinned (OpenSpec.ofChange ipsixKnownWrong)

/- THE SECOND FORM. 'bulk': how many values and letters a reading holds, each counted each time it is reached (what is shared counts as often as it is met; a slice's spare places count too). A statement '..UptoSaid' is the law's where the arguments, and the package variables that the reading takes, are together of bulk at most 1048576: NARROWER than '..Said'. Prove '..Said' where nothing that the law and all that it calls make is longer than what came in: it says more and counts as full. Else prove '..UptoSaid'. A law counts once. -/
mutual
def uptoBulk {H : Type} : DataW H → Nat
  | .lit (.string bytes) => bytes.length + 1
  | .lit _ => 1
  | .nil => 1
  | .ptr d => uptoBulk d + 1
  | .slice elems spare => uptoBulkAll elems + uptoBulkAll spare + 1
  | .agg parts => uptoBulkAll parts + 1
  | .iface _ d => uptoBulk d + 1
  | .map entries => uptoBulkEntries entries + 1
  | .held _ => 1
def uptoBulkAll {H : Type} : List (DataW H) → Nat
  | [] => 0
  | d :: r => uptoBulk d + uptoBulkAll r
def uptoBulkEntries {H : Type} : List (Lit × DataW H) → Nat
  | [] => 0
  | x :: r => uptoBulkEntry x + uptoBulkEntries r
def uptoBulkEntry {H : Type} : Lit × DataW H → Nat
  | (.string bytes, d) => bytes.length + uptoBulk d + 1
  | (_, d) => uptoBulk d + 1
 end
def uptoSmall : (H : Type) → List (DataW H) → Bool := fun _ ds => decide (uptoBulkAll ds ≤ 1048576)
def OpenSpec.upto (s : _root_.Go.ChangeSpec) : _root_.Go.OpenSpec := { _root_.Go.OpenSpec.ofChange s with cond := some uptoSmall }

/-- 'octroilaw06.IpsixChains', WHERE WHAT IT READS IS OF BULK AT MOST 1048576: true; the input reads as it did. -/
def ipsixChainsUptoRow : OpenClaim := { program := "ytikjomacnbemhaa", sum := "391453e8c06435a98e2f338d37950f92e4dbf60a4631814908424a1305191417", func := "octroi/octroilaw06.IpsixChains", spec := "ipsixChains", unfollowed := true, recurses := true, apart := false, narrowed := true }
def IpsixChainsUptoSaid : Prop := ipsixChainsUptoRow.holds Try.pinned (OpenSpec.upto ipsixChainsSpec)

/-- 'octroilaw06.IpsixParses', WHERE WHAT IT READS IS OF BULK AT MOST 1048576: true; the input reads as it did. -/
def ipsixParsesUptoRow : OpenClaim := { program := "ytikjomacnbemhaa", sum := "391453e8c06435a98e2f338d37950f92e4dbf60a4631814908424a1305191417", func := "octroi/octroilaw06.IpsixParses", spec := "ipsixParses", unfollowed := true, recurses := true, apart := false, narrowed := true }
def IpsixParsesUptoSaid : Prop := ipsixParsesUptoRow.holds Try.pinned (OpenSpec.upto ipsixParsesSpec)

/-- 'octroilaw06.IpsixHeads', WHERE WHAT IT READS IS OF BULK AT MOST 1048576: true; the input reads as it did. -/
def ipsixHeadsUptoRow : OpenClaim := { program := "ytikjomacnbemhaa", sum := "391453e8c06435a98e2f338d37950f92e4dbf60a4631814908424a1305191417", func := "octroi/octroilaw06.IpsixHeads", spec := "ipsixHeads", unfollowed := true, recurses := true, apart := false, narrowed := true }
def IpsixHeadsUptoSaid : Prop := ipsixHeadsUptoRow.holds Try.pinned (OpenSpec.upto ipsixHeadsSpec)

/-- 'octroilaw06.IpsixBack', WHERE WHAT IT READS IS OF BULK AT MOST 1048576: true; the input reads as it did. -/
def ipsixBackUptoRow : OpenClaim := { program := "ytikjomacnbemhaa", sum := "391453e8c06435a98e2f338d37950f92e4dbf60a4631814908424a1305191417", func := "octroi/octroilaw06.IpsixBack", spec := "ipsixBack", unfollowed := true, recurses := true, apart := false, narrowed := true }
def IpsixBackUptoSaid : Prop := ipsixBackUptoRow.holds Try.pinned (OpenSpec.upto ipsixBackSpec)

/-- 'octroilaw06.IpsixKnown', WHERE WHAT IT READS IS OF BULK AT MOST 1048576: true; the input reads as it did. -/
def ipsixKnownUptoRow : OpenClaim := { program := "ytikjomacnbemhaa", sum := "391453e8c06435a98e2f338d37950f92e4dbf60a4631814908424a1305191417", func := "octroi/octroilaw06.IpsixKnown", spec := "ipsixKnown", unfollowed := true, recurses := true, apart := false, narrowed := true }
def IpsixKnownUptoSaid : Prop := ipsixKnownUptoRow.holds Try.pinned (OpenSpec.upto ipsixKnownSpec)

end Rows
end Go.Proofs.Ytikjomacnbemhaa
