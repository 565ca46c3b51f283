/-
  No cell of these rows narrows 'for every input' (looked for: loops, veiled, ifaces, maps, wideKeys, modest, calm, conditions, laid).
  DERIVED. THE GIVEN ROWS OF THIS SEAT. 3 by the template 'for every input the law returns true; each argument reads behind the call as it read before'; 0 by the template 'total and deterministic' (their statements: YteafnfoponjoeaaTotals.lean).
  GIVEN WITH THE SEED: the statements are not yours to turn. If you find one false, say at which input.
  Laid BY PROGRAM, IN A SANDBOX (cutbox-rows.mjs): the forced cells as the released guide's own fill.sh prints them over the translation 886ad57c89c56e8a… (all of the seat's roots in one cut). By AI agents, Wed Nov 11 2026. No macro, syntax, notation, axiom, sorry.
-/
import Derived.Test.YteafnfoponjoeaaChecked
import GoSem.Claim
import GoSem.ClaimJoined
import GoSem.ClaimMapViews
import Derived.JoinedTies
import Derived.KernelRfl
namespace Go.Proofs.Yteafnfoponjoeaa
/- THE CELL 'sum', in the pinned program and in every row, IS THE sha256 OF THE DUMP (.gsa) THAT YteafnfoponjoeaaProg.lean LOADS. Nothing in Lean hashes anything: it is a label: what it is worth is what the hold of that sum in a sandbox is worth. -/
noncomputable def Try.pinned : Pinned := { name := "yteafnfoponjoeaa", sum := "886ad57c89c56e8a6178cdeb4f503659b7e0409cba3c11d779fb209e563c9e09", checked := Try.checked }
namespace Rows
def none {H : Type} : Left H := { results := [], args := [] }

/-- 'octroilaw22.FlowSums': WHATEVER THE INPUT: true; the input reads as it did. -/
def flowSumsSpec : ChangeSpec := { name := "flowSums", fn := fun _ => fun
  | [d1, d2, d3, d4, d5, d6] => { results := [.lit (.bool true)], args := [d1, d2, d3, d4, d5, d6] }
  | _ => none }
def flowSumsRow : OpenClaim := { program := "yteafnfoponjoeaa", sum := "886ad57c89c56e8a6178cdeb4f503659b7e0409cba3c11d779fb209e563c9e09", func := "octroi/octroilaw22.FlowSums", spec := "flowSums", inPlace := ["math/bits.Add64"], apart := false }
def FlowSumsSaid : Prop := flowSumsRow.holds Try.pinned (OpenSpec.ofChange flowSumsSpec)

/-- ITS FALSE NEIGHBOUR: 'it returns false'. Refute it at one input. -/
def flowSumsWrong : ChangeSpec := { name := "flowSums", fn := fun _ => fun
  | [d1, d2, d3, d4, d5, d6] => { results := [.lit (.bool false)], args := [d1, d2, d3, d4, d5, d6] }
  | _ => none }
def FlowSumsWrongFalsely : Prop := flowSumsRow.holds Try.pinned (OpenSpec.ofChange flowSumsWrong)

/-- 'octroilaw22.FlowRecords': WHATEVER THE INPUT: true; the input reads as it did. -/
def flowRecordsSpec : ChangeSpec := { name := "flowRecords", fn := fun _ => fun
  | [d1, d2, d3, d4, d5] => { results := [.lit (.bool true)], args := [d1, d2, d3, d4, d5] }
  | _ => none }
def flowRecordsRow : OpenClaim := { program := "yteafnfoponjoeaa", sum := "886ad57c89c56e8a6178cdeb4f503659b7e0409cba3c11d779fb209e563c9e09", func := "octroi/octroilaw22.FlowRecords", spec := "flowRecords", inPlace := ["math/bits.Add64"], apart := false }
def FlowRecordsSaid : Prop := flowRecordsRow.holds Try.pinned (OpenSpec.ofChange flowRecordsSpec)

/-- ITS FALSE NEIGHBOUR: 'it returns false'. Refute it at one input. -/
def flowRecordsWrong : ChangeSpec := { name := "flowRecords", fn := fun _ => fun
  | [d1, d2, d3, d4, d5] => { results := [.lit (.bool false)], args := [d1, d2, d3, d4, d5] }
  | _ => none }
def FlowRecordsWrongFalsely : Prop := flowRecordsRow.holds Try.pinned (OpenSpec.ofChange flowRecordsWrong)

/-- 'octroilaw22.FlowValues': WHATEVER THE INPUT: true; the input reads as it did. -/
def flowValuesSpec : ChangeSpec := { name := "flowValues", fn := fun _ => fun
  | [d1, d2] => { results := [.lit (.bool true)], args := [d1, d2] }
  | _ => none }
def flowValuesRow : OpenClaim := { program := "yteafnfoponjoeaa", sum := "886ad57c89c56e8a6178cdeb4f503659b7e0409cba3c11d779fb209e563c9e09", func := "octroi/octroilaw22.FlowValues", spec := "flowValues", inPlace := ["math/bits.Add64"], apart := false }
def FlowValuesSaid : Prop := flowValuesRow.holds Try.pinned (OpenSpec.ofChange flowValuesSpec)

/-- ITS FALSE NEIGHBOUR: 'it returns false'. Refute it at one input. -/
def flowValuesWrong : ChangeSpec := { name := "flowValues", fn := fun _ => fun
  | [d1, d2] => { results := [.lit (.bool false)], args := [d1, d2] }
  | _ => none }
def FlowValuesWrongFalsely : Prop := flowValuesRow.holds Try.pinned (OpenSpec.ofChange flowValuesWrong)

/- THE SECOND FORM. 'bulk': how many values and letters a reading holds, each counted each time it is reached (what is shared counts as often as it is met; a slice's spare places count too). A statement '..UptoSaid' is the law's where the arguments, and the package variables that the reading takes, are together of bulk at most 1048576: NARROWER than '..Said'. Prove '..Said' where nothing that the law and all that it calls make is longer than what came in: it says more and counts as full. Else prove '..UptoSaid'. A law counts once. -/
mutual
def uptoBulk {H : Type} : DataW H → Nat
  | .lit (.string bytes) => bytes.length + 1
  | .lit _ => 1
  | .nil => 1
  | .ptr d => uptoBulk d + 1
  | .slice elems spare => uptoBulkAll elems + uptoBulkAll spare + 1
  | .agg parts => uptoBulkAll parts + 1
  | .iface _ d => uptoBulk d + 1
  | .map entries => uptoBulkEntries entries + 1
  | .held _ => 1
def uptoBulkAll {H : Type} : List (DataW H) → Nat
  | [] => 0
  | d :: r => uptoBulk d + uptoBulkAll r
def uptoBulkEntries {H : Type} : List (Lit × DataW H) → Nat
  | [] => 0
  | x :: r => uptoBulkEntry x + uptoBulkEntries r
def uptoBulkEntry {H : Type} : Lit × DataW H → Nat
  | (.string bytes, d) => bytes.length + uptoBulk d + 1
  | (_, d) => uptoBulk d + 1
 end
def uptoSmall : (H : Type) → List (DataW H) → Bool := fun _ ds => decide (uptoBulkAll ds ≤ 1048576)
def OpenSpec.upto (s : _root_.Go.ChangeSpec) : _root_.Go.OpenSpec := { _root_.Go.OpenSpec.ofChange s with cond := some uptoSmall }

/-- 'octroilaw22.FlowSums', WHERE WHAT IT READS IS OF BULK AT MOST 1048576: true; the input reads as it did. -/
def flowSumsUptoRow : OpenClaim := { program := "yteafnfoponjoeaa", sum := "886ad57c89c56e8a6178cdeb4f503659b7e0409cba3c11d779fb209e563c9e09", func := "octroi/octroilaw22.FlowSums", spec := "flowSums", inPlace := ["math/bits.Add64"], apart := false, narrowed := true }
def FlowSumsUptoSaid : Prop := flowSumsUptoRow.holds Try.pinned (OpenSpec.upto flowSumsSpec)

/-- 'octroilaw22.FlowRecords', WHERE WHAT IT READS IS OF BULK AT MOST 1048576: true; the input reads as it did. -/
def flowRecordsUptoRow : OpenClaim := { program := "yteafnfoponjoeaa", sum := "886ad57c89c56e8a6178cdeb4f503659b7e0409cba3c11d779fb209e563c9e09", func := "octroi/octroilaw22.FlowRecords", spec := "flowRecords", inPlace := ["math/bits.Add64"], apart := false, narrowed := true }
def FlowRecordsUptoSaid : Prop := flowRecordsUptoRow.holds Try.pinned (OpenSpec.upto flowRecordsSpec)

/-- 'octroilaw22.FlowValues', WHERE WHAT IT READS IS OF BULK AT MOST 1048576: true; the input reads as it did. -/
def flowValuesUptoRow : OpenClaim := { program := "yteafnfoponjoeaa", sum := "886ad57c89c56e8a6178cdeb4f503659b7e0409cba3c11d779fb209e563c9e09", func := "octroi/octroilaw22.FlowValues", spec := "flowValues", inPlace := ["math/bits.Add64"], apart := false, narrowed := true }
def FlowValuesUptoSaid : Prop := flowValuesUptoRow.holds Try.pinned (OpenSpec.upto flowValuesSpec)

end Rows
end Go.Proofs.Yteafnfoponjoeaa
