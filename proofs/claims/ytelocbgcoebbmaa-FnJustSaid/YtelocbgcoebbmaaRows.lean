/-
  No cell of these rows narrows 'for every input' (looked for: loops, veiled, ifaces, maps, wideKeys, modest, calm, conditions, laid).
  DERIVED. THE GIVEN ROWS OF THIS SEAT. 7 by the template 'for every input the law returns true; each argument reads behind the call as it read before'; 0 by the template 'total and deterministic' (their statements: YtelocbgcoebbmaaTotals.lean).
  GIVEN WITH THE SEED: the statements are not yours to turn. If you find one false, say at which input.
  Laid BY PROGRAM, IN A SANDBOX (cutbox-rows.mjs): the forced cells as the released guide's own fill.sh prints them over the translation 4d23167665348365… (all of the seat's roots in one cut). By AI agents, Wed Nov 11 2026. No macro, syntax, notation, axiom, sorry.
-/
import Derived.Test.YtelocbgcoebbmaaChecked
import GoSem.Claim
import GoSem.ClaimJoined
import GoSem.ClaimMapViews
import Derived.JoinedTies
import Derived.KernelRfl
namespace Go.Proofs.Ytelocbgcoebbmaa
/- THE CELL 'sum', in the pinned program and in every row, IS THE sha256 OF THE DUMP (.gsa) THAT YtelocbgcoebbmaaProg.lean LOADS. Nothing in Lean hashes anything: it is a label: what it is worth is what the hold of that sum in a sandbox is worth. -/
noncomputable def Try.pinned : Pinned := { name := "ytelocbgcoebbmaa", sum := "4d23167665348365b534ed161ccba51e53b0ea9f61a372cadf5e736dbaa2da24", checked := Try.checked }
namespace Rows
def none {H : Type} : Left H := { results := [], args := [] }

/-- 'laws.FnExactSurely': WHATEVER THE INPUT: true; the input reads as it did. -/
def fnExactSurelySpec : ChangeSpec := { name := "fnExactSurely", fn := fun _ => fun
  | [d1, d2] => { results := [.lit (.bool true)], args := [d1, d2] }
  | _ => none }
def fnExactSurelyRow : OpenClaim := { program := "ytelocbgcoebbmaa", sum := "4d23167665348365b534ed161ccba51e53b0ea9f61a372cadf5e736dbaa2da24", func := "loop.example/milepost/laws.FnExactSurely", spec := "fnExactSurely", apart := false }
def FnExactSurelySaid : Prop := fnExactSurelyRow.holds Try.pinned (OpenSpec.ofChange fnExactSurelySpec)

/-- ITS FALSE NEIGHBOUR: 'it returns false'. Refute it at one input. -/
def fnExactSurelyWrong : ChangeSpec := { name := "fnExactSurely", fn := fun _ => fun
  | [d1, d2] => { results := [.lit (.bool false)], args := [d1, d2] }
  | _ => none }
def FnExactSurelyWrongFalsely : Prop := fnExactSurelyRow.holds Try.pinned (OpenSpec.ofChange fnExactSurelyWrong)

/-- 'laws.FnExactPast': WHATEVER THE INPUT: true; the input reads as it did. -/
def fnExactPastSpec : ChangeSpec := { name := "fnExactPast", fn := fun _ => fun
  | [d1, d2, d3] => { results := [.lit (.bool true)], args := [d1, d2, d3] }
  | _ => none }
def fnExactPastRow : OpenClaim := { program := "ytelocbgcoebbmaa", sum := "4d23167665348365b534ed161ccba51e53b0ea9f61a372cadf5e736dbaa2da24", func := "loop.example/milepost/laws.FnExactPast", spec := "fnExactPast", apart := false }
def FnExactPastSaid : Prop := fnExactPastRow.holds Try.pinned (OpenSpec.ofChange fnExactPastSpec)

/-- ITS FALSE NEIGHBOUR: 'it returns false'. Refute it at one input. -/
def fnExactPastWrong : ChangeSpec := { name := "fnExactPast", fn := fun _ => fun
  | [d1, d2, d3] => { results := [.lit (.bool false)], args := [d1, d2, d3] }
  | _ => none }
def FnExactPastWrongFalsely : Prop := fnExactPastRow.holds Try.pinned (OpenSpec.ofChange fnExactPastWrong)

/-- 'laws.FnExactFair': WHATEVER THE INPUT: true; the input reads as it did. -/
def fnExactFairSpec : ChangeSpec := { name := "fnExactFair", fn := fun _ => fun
  | [d1, d2] => { results := [.lit (.bool true)], args := [d1, d2] }
  | _ => none }
def fnExactFairRow : OpenClaim := { program := "ytelocbgcoebbmaa", sum := "4d23167665348365b534ed161ccba51e53b0ea9f61a372cadf5e736dbaa2da24", func := "loop.example/milepost/laws.FnExactFair", spec := "fnExactFair", apart := false }
def FnExactFairSaid : Prop := fnExactFairRow.holds Try.pinned (OpenSpec.ofChange fnExactFairSpec)

/-- ITS FALSE NEIGHBOUR: 'it returns false'. Refute it at one input. -/
def fnExactFairWrong : ChangeSpec := { name := "fnExactFair", fn := fun _ => fun
  | [d1, d2] => { results := [.lit (.bool false)], args := [d1, d2] }
  | _ => none }
def FnExactFairWrongFalsely : Prop := fnExactFairRow.holds Try.pinned (OpenSpec.ofChange fnExactFairWrong)

/-- 'laws.FnExactWheel': WHATEVER THE INPUT: true; the input reads as it did. -/
def fnExactWheelSpec : ChangeSpec := { name := "fnExactWheel", fn := fun _ => fun
  | [d1, d2, d3] => { results := [.lit (.bool true)], args := [d1, d2, d3] }
  | _ => none }
def fnExactWheelRow : OpenClaim := { program := "ytelocbgcoebbmaa", sum := "4d23167665348365b534ed161ccba51e53b0ea9f61a372cadf5e736dbaa2da24", func := "loop.example/milepost/laws.FnExactWheel", spec := "fnExactWheel", apart := false }
def FnExactWheelSaid : Prop := fnExactWheelRow.holds Try.pinned (OpenSpec.ofChange fnExactWheelSpec)

/-- ITS FALSE NEIGHBOUR: 'it returns false'. Refute it at one input. -/
def fnExactWheelWrong : ChangeSpec := { name := "fnExactWheel", fn := fun _ => fun
  | [d1, d2, d3] => { results := [.lit (.bool false)], args := [d1, d2, d3] }
  | _ => none }
def FnExactWheelWrongFalsely : Prop := fnExactWheelRow.holds Try.pinned (OpenSpec.ofChange fnExactWheelWrong)

/-- 'laws.FnExactRead': WHATEVER THE INPUT: true; the input reads as it did. -/
def fnExactReadSpec : ChangeSpec := { name := "fnExactRead", fn := fun _ => fun
  | [d1, d2, d3] => { results := [.lit (.bool true)], args := [d1, d2, d3] }
  | _ => none }
def fnExactReadRow : OpenClaim := { program := "ytelocbgcoebbmaa", sum := "4d23167665348365b534ed161ccba51e53b0ea9f61a372cadf5e736dbaa2da24", func := "loop.example/milepost/laws.FnExactRead", spec := "fnExactRead", apart := false }
def FnExactReadSaid : Prop := fnExactReadRow.holds Try.pinned (OpenSpec.ofChange fnExactReadSpec)

/-- ITS FALSE NEIGHBOUR: 'it returns false'. Refute it at one input. -/
def fnExactReadWrong : ChangeSpec := { name := "fnExactRead", fn := fun _ => fun
  | [d1, d2, d3] => { results := [.lit (.bool false)], args := [d1, d2, d3] }
  | _ => none }
def FnExactReadWrongFalsely : Prop := fnExactReadRow.holds Try.pinned (OpenSpec.ofChange fnExactReadWrong)

/-- 'laws.FnSums': WHATEVER THE INPUT: true; the input reads as it did. -/
def fnSumsSpec : ChangeSpec := { name := "fnSums", fn := fun _ => fun
  | [d1, d2] => { results := [.lit (.bool true)], args := [d1, d2] }
  | _ => none }
def fnSumsRow : OpenClaim := { program := "ytelocbgcoebbmaa", sum := "4d23167665348365b534ed161ccba51e53b0ea9f61a372cadf5e736dbaa2da24", func := "loop.example/milepost/laws.FnSums", spec := "fnSums", apart := false }
def FnSumsSaid : Prop := fnSumsRow.holds Try.pinned (OpenSpec.ofChange fnSumsSpec)

/-- ITS FALSE NEIGHBOUR: 'it returns false'. Refute it at one input. -/
def fnSumsWrong : ChangeSpec := { name := "fnSums", fn := fun _ => fun
  | [d1, d2] => { results := [.lit (.bool false)], args := [d1, d2] }
  | _ => none }
def FnSumsWrongFalsely : Prop := fnSumsRow.holds Try.pinned (OpenSpec.ofChange fnSumsWrong)

/-- 'laws.FnJust': WHATEVER THE INPUT: true; the input reads as it did. -/
def fnJustSpec : ChangeSpec := { name := "fnJust", fn := fun _ => fun
  | [d1, d2] => { results := [.lit (.bool true)], args := [d1, d2] }
  | _ => none }
def fnJustRow : OpenClaim := { program := "ytelocbgcoebbmaa", sum := "4d23167665348365b534ed161ccba51e53b0ea9f61a372cadf5e736dbaa2da24", func := "loop.example/milepost/laws.FnJust", spec := "fnJust", apart := false }
def FnJustSaid : Prop := fnJustRow.holds Try.pinned (OpenSpec.ofChange fnJustSpec)

/-- ITS FALSE NEIGHBOUR: 'it returns false'. Refute it at one input. -/
def fnJustWrong : ChangeSpec := { name := "fnJust", fn := fun _ => fun
  | [d1, d2] => { results := [.lit (.bool false)], args := [d1, d2] }
  | _ => none }
def FnJustWrongFalsely : Prop := fnJustRow.holds Try.pinned (OpenSpec.ofChange fnJustWrong)

/- THE SECOND FORM. 'bulk': how many values and letters a reading holds, each counted each time it is reached (what is shared counts as often as it is met; a slice's spare places count too). A statement '..UptoSaid' is the law's where the arguments, and the package variables that the reading takes, are together of bulk at most 1048576: NARROWER than '..Said'. Prove '..Said' where nothing that the law and all that it calls make is longer than what came in: it says more and counts as full. Else prove '..UptoSaid'. A law counts once. -/
mutual
def uptoBulk {H : Type} : DataW H → Nat
  | .lit (.string bytes) => bytes.length + 1
  | .lit _ => 1
  | .nil => 1
  | .ptr d => uptoBulk d + 1
  | .slice elems spare => uptoBulkAll elems + uptoBulkAll spare + 1
  | .agg parts => uptoBulkAll parts + 1
  | .iface _ d => uptoBulk d + 1
  | .map entries => uptoBulkEntries entries + 1
  | .held _ => 1
def uptoBulkAll {H : Type} : List (DataW H) → Nat
  | [] => 0
  | d :: r => uptoBulk d + uptoBulkAll r
def uptoBulkEntries {H : Type} : List (Lit × DataW H) → Nat
  | [] => 0
  | x :: r => uptoBulkEntry x + uptoBulkEntries r
def uptoBulkEntry {H : Type} : Lit × DataW H → Nat
  | (.string bytes, d) => bytes.length + uptoBulk d + 1
  | (_, d) => uptoBulk d + 1
 end
def uptoSmall : (H : Type) → List (DataW H) → Bool := fun _ ds => decide (uptoBulkAll ds ≤ 1048576)
def OpenSpec.upto (s : _root_.Go.ChangeSpec) : _root_.Go.OpenSpec := { _root_.Go.OpenSpec.ofChange s with cond := some uptoSmall }

/-- 'laws.FnExactSurely', WHERE WHAT IT READS IS OF BULK AT MOST 1048576: true; the input reads as it did. -/
def fnExactSurelyUptoRow : OpenClaim := { program := "ytelocbgcoebbmaa", sum := "4d23167665348365b534ed161ccba51e53b0ea9f61a372cadf5e736dbaa2da24", func := "loop.example/milepost/laws.FnExactSurely", spec := "fnExactSurely", apart := false, narrowed := true }
def FnExactSurelyUptoSaid : Prop := fnExactSurelyUptoRow.holds Try.pinned (OpenSpec.upto fnExactSurelySpec)

/-- 'laws.FnExactPast', WHERE WHAT IT READS IS OF BULK AT MOST 1048576: true; the input reads as it did. -/
def fnExactPastUptoRow : OpenClaim := { program := "ytelocbgcoebbmaa", sum := "4d23167665348365b534ed161ccba51e53b0ea9f61a372cadf5e736dbaa2da24", func := "loop.example/milepost/laws.FnExactPast", spec := "fnExactPast", apart := false, narrowed := true }
def FnExactPastUptoSaid : Prop := fnExactPastUptoRow.holds Try.pinned (OpenSpec.upto fnExactPastSpec)

/-- 'laws.FnExactFair', WHERE WHAT IT READS IS OF BULK AT MOST 1048576: true; the input reads as it did. -/
def fnExactFairUptoRow : OpenClaim := { program := "ytelocbgcoebbmaa", sum := "4d23167665348365b534ed161ccba51e53b0ea9f61a372cadf5e736dbaa2da24", func := "loop.example/milepost/laws.FnExactFair", spec := "fnExactFair", apart := false, narrowed := true }
def FnExactFairUptoSaid : Prop := fnExactFairUptoRow.holds Try.pinned (OpenSpec.upto fnExactFairSpec)

/-- 'laws.FnExactWheel', WHERE WHAT IT READS IS OF BULK AT MOST 1048576: true; the input reads as it did. -/
def fnExactWheelUptoRow : OpenClaim := { program := "ytelocbgcoebbmaa", sum := "4d23167665348365b534ed161ccba51e53b0ea9f61a372cadf5e736dbaa2da24", func := "loop.example/milepost/laws.FnExactWheel", spec := "fnExactWheel", apart := false, narrowed := true }
def FnExactWheelUptoSaid : Prop := fnExactWheelUptoRow.holds Try.pinned (OpenSpec.upto fnExactWheelSpec)

/-- 'laws.FnExactRead', WHERE WHAT IT READS IS OF BULK AT MOST 1048576: true; the input reads as it did. -/
def fnExactReadUptoRow : OpenClaim := { program := "ytelocbgcoebbmaa", sum := "4d23167665348365b534ed161ccba51e53b0ea9f61a372cadf5e736dbaa2da24", func := "loop.example/milepost/laws.FnExactRead", spec := "fnExactRead", apart := false, narrowed := true }
def FnExactReadUptoSaid : Prop := fnExactReadUptoRow.holds Try.pinned (OpenSpec.upto fnExactReadSpec)

/-- 'laws.FnSums', WHERE WHAT IT READS IS OF BULK AT MOST 1048576: true; the input reads as it did. -/
def fnSumsUptoRow : OpenClaim := { program := "ytelocbgcoebbmaa", sum := "4d23167665348365b534ed161ccba51e53b0ea9f61a372cadf5e736dbaa2da24", func := "loop.example/milepost/laws.FnSums", spec := "fnSums", apart := false, narrowed := true }
def FnSumsUptoSaid : Prop := fnSumsUptoRow.holds Try.pinned (OpenSpec.upto fnSumsSpec)

/-- 'laws.FnJust', WHERE WHAT IT READS IS OF BULK AT MOST 1048576: true; the input reads as it did. -/
def fnJustUptoRow : OpenClaim := { program := "ytelocbgcoebbmaa", sum := "4d23167665348365b534ed161ccba51e53b0ea9f61a372cadf5e736dbaa2da24", func := "loop.example/milepost/laws.FnJust", spec := "fnJust", apart := false, narrowed := true }
def FnJustUptoSaid : Prop := fnJustUptoRow.holds Try.pinned (OpenSpec.upto fnJustSpec)

end Rows
end Go.Proofs.Ytelocbgcoebbmaa
