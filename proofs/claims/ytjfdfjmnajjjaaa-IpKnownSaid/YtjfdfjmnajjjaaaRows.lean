/-
  No cell of these rows narrows 'for every input' (looked for: loops, veiled, ifaces, maps, wideKeys, modest, calm, conditions, laid).
  DERIVED. THE GIVEN ROWS OF THIS SEAT. 5 by the template 'for every input the law returns true; each argument reads behind the call as it read before'; 0 by the template 'total and deterministic' (their statements: YtjfdfjmnajjjaaaTotals.lean).
  GIVEN WITH THE SEED: the statements are not yours to turn. If you find one false, say at which input.
  Laid BY PROGRAM, IN A SANDBOX (cutbox-rows.mjs): the forced cells as the released guide's own fill.sh prints them over the translation 68f0bc142bbbefc0… (all of the seat's roots in one cut). By AI agents, Wed Nov 11 2026. No macro, syntax, notation, axiom, sorry.
-/
import Derived.Test.YtjfdfjmnajjjaaaChecked
import GoSem.Claim
import GoSem.ClaimJoined
import GoSem.ClaimMapViews
import Derived.JoinedTies
import Derived.KernelRfl
namespace Go.Proofs.Ytjfdfjmnajjjaaa
/- THE CELL 'sum', in the pinned program and in every row, IS THE sha256 OF THE DUMP (.gsa) THAT YtjfdfjmnajjjaaaProg.lean LOADS. Nothing in Lean hashes anything: it is a label: what it is worth is what the hold of that sum in a sandbox is worth. -/
noncomputable def Try.pinned : Pinned := { name := "ytjfdfjmnajjjaaa", sum := "68f0bc142bbbefc0f0ece5608c678dc432df6481de1045897932f28db7729196", checked := Try.checked }
namespace Rows
def none {H : Type} : Left H := { results := [], args := [] }

/-- 'octroilaw05.IpOptions': WHATEVER THE INPUT: true; the input reads as it did. -/
def ipOptionsSpec : ChangeSpec := { name := "ipOptions", fn := fun _ => fun
  | [d] => { results := [.lit (.bool true)], args := [d] }
  | _ => none }
def ipOptionsRow : OpenClaim := { program := "ytjfdfjmnajjjaaa", sum := "68f0bc142bbbefc0f0ece5608c678dc432df6481de1045897932f28db7729196", func := "octroi/octroilaw05.IpOptions", spec := "ipOptions", unfollowed := true, recurses := true, apart := false }
def IpOptionsSaid : Prop := ipOptionsRow.holds Try.pinned (OpenSpec.ofChange ipOptionsSpec)

/-- ITS FALSE NEIGHBOUR: 'it returns false'. Refute it at one input. -/
def ipOptionsWrong : ChangeSpec := { name := "ipOptions", fn := fun _ => fun
  | [d] => { results := [.lit (.bool false)], args := [d] }
  | _ => none }
def IpOptionsWrongFalsely : Prop := ipOptionsRow.holds Try.pinned (OpenSpec.ofChange ipOptionsWrong)

/-- 'octroilaw05.IpPuts': WHATEVER THE INPUT: true; the input reads as it did. -/
def ipPutsSpec : ChangeSpec := { name := "ipPuts", fn := fun _ => fun
  | [d1, d2] => { results := [.lit (.bool true)], args := [d1, d2] }
  | _ => none }
def ipPutsRow : OpenClaim := { program := "ytjfdfjmnajjjaaa", sum := "68f0bc142bbbefc0f0ece5608c678dc432df6481de1045897932f28db7729196", func := "octroi/octroilaw05.IpPuts", spec := "ipPuts", unfollowed := true, recurses := true, apart := false }
def IpPutsSaid : Prop := ipPutsRow.holds Try.pinned (OpenSpec.ofChange ipPutsSpec)

/-- ITS FALSE NEIGHBOUR: 'it returns false'. Refute it at one input. -/
def ipPutsWrong : ChangeSpec := { name := "ipPuts", fn := fun _ => fun
  | [d1, d2] => { results := [.lit (.bool false)], args := [d1, d2] }
  | _ => none }
def IpPutsWrongFalsely : Prop := ipPutsRow.holds Try.pinned (OpenSpec.ofChange ipPutsWrong)

/-- 'octroilaw05.IpBack': WHATEVER THE INPUT: true; the input reads as it did. -/
def ipBackSpec : ChangeSpec := { name := "ipBack", fn := fun _ => fun
  | [d1, d2, d3, d4] => { results := [.lit (.bool true)], args := [d1, d2, d3, d4] }
  | _ => none }
def ipBackRow : OpenClaim := { program := "ytjfdfjmnajjjaaa", sum := "68f0bc142bbbefc0f0ece5608c678dc432df6481de1045897932f28db7729196", func := "octroi/octroilaw05.IpBack", spec := "ipBack", unfollowed := true, recurses := true, apart := false }
def IpBackSaid : Prop := ipBackRow.holds Try.pinned (OpenSpec.ofChange ipBackSpec)

/-- ITS FALSE NEIGHBOUR: 'it returns false'. Refute it at one input. -/
def ipBackWrong : ChangeSpec := { name := "ipBack", fn := fun _ => fun
  | [d1, d2, d3, d4] => { results := [.lit (.bool false)], args := [d1, d2, d3, d4] }
  | _ => none }
def IpBackWrongFalsely : Prop := ipBackRow.holds Try.pinned (OpenSpec.ofChange ipBackWrong)

/-- 'octroilaw05.IpParses': WHATEVER THE INPUT: true; the input reads as it did. -/
def ipParsesSpec : ChangeSpec := { name := "ipParses", fn := fun _ => fun
  | [d] => { results := [.lit (.bool true)], args := [d] }
  | _ => none }
def ipParsesRow : OpenClaim := { program := "ytjfdfjmnajjjaaa", sum := "68f0bc142bbbefc0f0ece5608c678dc432df6481de1045897932f28db7729196", func := "octroi/octroilaw05.IpParses", spec := "ipParses", unfollowed := true, recurses := true, apart := false }
def IpParsesSaid : Prop := ipParsesRow.holds Try.pinned (OpenSpec.ofChange ipParsesSpec)

/-- ITS FALSE NEIGHBOUR: 'it returns false'. Refute it at one input. -/
def ipParsesWrong : ChangeSpec := { name := "ipParses", fn := fun _ => fun
  | [d] => { results := [.lit (.bool false)], args := [d] }
  | _ => none }
def IpParsesWrongFalsely : Prop := ipParsesRow.holds Try.pinned (OpenSpec.ofChange ipParsesWrong)

/-- 'octroilaw05.IpKnown': WHATEVER THE INPUT: true; the input reads as it did. -/
def ipKnownSpec : ChangeSpec := { name := "ipKnown", fn := fun _ => fun
  | [] => { results := [.lit (.bool true)], args := [] }
  | _ => none }
def ipKnownRow : OpenClaim := { program := "ytjfdfjmnajjjaaa", sum := "68f0bc142bbbefc0f0ece5608c678dc432df6481de1045897932f28db7729196", func := "octroi/octroilaw05.IpKnown", spec := "ipKnown", unfollowed := true, recurses := true, apart := false }
def IpKnownSaid : Prop := ipKnownRow.holds Try.pinned (OpenSpec.ofChange ipKnownSpec)

/-- ITS FALSE NEIGHBOUR: 'it returns false'. Refute it at one input. -/
def ipKnownWrong : ChangeSpec := { name := "ipKnown", fn := fun _ => fun
  | [] => { results := [.lit (.bool false)], args := [] }
  | _ => none }
def IpKnownWrongFalsely : Prop := ipKnownRow.holds Try.pinned (OpenSpec.ofChange ipKnownWrong)

/- THE SECOND FORM. 'bulk': how many values and letters a reading holds, each counted each time it is reached (what is shared counts as often as it is met; a slice's spare places count too). A statement '..UptoSaid' is the law's where the arguments, and the package variables that the reading takes, are together of bulk at most 1048576: NARROWER than '..Said'. Prove '..Said' where nothing that the law and all that it calls make is longer than what came in: it says more and counts as full. Else prove '..UptoSaid'. A law counts once. -/
mutual
def uptoBulk {H : Type} : DataW H → Nat
  | .lit (.string bytes) => bytes.length + 1
  | .lit _ => 1
  | .nil => 1
  | .ptr d => uptoBulk d + 1
  | .slice elems spare => uptoBulkAll elems + uptoBulkAll spare + 1
  | .agg parts => uptoBulkAll parts + 1
  | .iface _ d => uptoBulk d + 1
  | .map entries => uptoBulkEntries entries + 1
  | .held _ => 1
def uptoBulkAll {H : Type} : List (DataW H) → Nat
  | [] => 0
  | d :: r => uptoBulk d + uptoBulkAll r
def uptoBulkEntries {H : Type} : List (Lit × DataW H) → Nat
  | [] => 0
  | x :: r => uptoBulkEntry x + uptoBulkEntries r
def uptoBulkEntry {H : Type} : Lit × DataW H → Nat
  | (.string bytes, d) => bytes.length + uptoBulk d + 1
  | (_, d) => uptoBulk d + 1
 end
def uptoSmall : (H : Type) → List (DataW H) → Bool := fun _ ds => decide (uptoBulkAll ds ≤ 1048576)
def OpenSpec.upto (s : _root_.Go.ChangeSpec) : _root_.Go.OpenSpec := { _root_.Go.OpenSpec.ofChange s with cond := some uptoSmall }

/-- 'octroilaw05.IpOptions', WHERE WHAT IT READS IS OF BULK AT MOST 1048576: true; the input reads as it did. -/
def ipOptionsUptoRow : OpenClaim := { program := "ytjfdfjmnajjjaaa", sum := "68f0bc142bbbefc0f0ece5608c678dc432df6481de1045897932f28db7729196", func := "octroi/octroilaw05.IpOptions", spec := "ipOptions", unfollowed := true, recurses := true, apart := false, narrowed := true }
def IpOptionsUptoSaid : Prop := ipOptionsUptoRow.holds Try.pinned (OpenSpec.upto ipOptionsSpec)

/-- 'octroilaw05.IpPuts', WHERE WHAT IT READS IS OF BULK AT MOST 1048576: true; the input reads as it did. -/
def ipPutsUptoRow : OpenClaim := { program := "ytjfdfjmnajjjaaa", sum := "68f0bc142bbbefc0f0ece5608c678dc432df6481de1045897932f28db7729196", func := "octroi/octroilaw05.IpPuts", spec := "ipPuts", unfollowed := true, recurses := true, apart := false, narrowed := true }
def IpPutsUptoSaid : Prop := ipPutsUptoRow.holds Try.pinned (OpenSpec.upto ipPutsSpec)

/-- 'octroilaw05.IpBack', WHERE WHAT IT READS IS OF BULK AT MOST 1048576: true; the input reads as it did. -/
def ipBackUptoRow : OpenClaim := { program := "ytjfdfjmnajjjaaa", sum := "68f0bc142bbbefc0f0ece5608c678dc432df6481de1045897932f28db7729196", func := "octroi/octroilaw05.IpBack", spec := "ipBack", unfollowed := true, recurses := true, apart := false, narrowed := true }
def IpBackUptoSaid : Prop := ipBackUptoRow.holds Try.pinned (OpenSpec.upto ipBackSpec)

/-- 'octroilaw05.IpParses', WHERE WHAT IT READS IS OF BULK AT MOST 1048576: true; the input reads as it did. -/
def ipParsesUptoRow : OpenClaim := { program := "ytjfdfjmnajjjaaa", sum := "68f0bc142bbbefc0f0ece5608c678dc432df6481de1045897932f28db7729196", func := "octroi/octroilaw05.IpParses", spec := "ipParses", unfollowed := true, recurses := true, apart := false, narrowed := true }
def IpParsesUptoSaid : Prop := ipParsesUptoRow.holds Try.pinned (OpenSpec.upto ipParsesSpec)

/-- 'octroilaw05.IpKnown', WHERE WHAT IT READS IS OF BULK AT MOST 1048576: true; the input reads as it did. -/
def ipKnownUptoRow : OpenClaim := { program := "ytjfdfjmnajjjaaa", sum := "68f0bc142bbbefc0f0ece5608c678dc432df6481de1045897932f28db7729196", func := "octroi/octroilaw05.IpKnown", spec := "ipKnown", unfollowed := true, recurses := true, apart := false, narrowed := true }
def IpKnownUptoSaid : Prop := ipKnownUptoRow.holds Try.pinned (OpenSpec.upto ipKnownSpec)

end Rows
end Go.Proofs.Ytjfdfjmnajjjaaa
