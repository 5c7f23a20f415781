/-
  No cell of these rows narrows 'for every input' (looked for: loops, veiled, ifaces, maps, wideKeys, modest, calm, conditions, laid).
  DERIVED. THE GIVEN ROWS OF THIS SEAT. 9 by the template 'for every input the law returns true; each argument reads behind the call as it read before'; 0 by the template 'total and deterministic' (their statements: YtcihbmdppgpmjaaTotals.lean).
  GIVEN WITH THE SEED: the statements are not yours to turn. If you find one false, say at which input.
  Laid BY PROGRAM, IN A SANDBOX (cutbox-rows.mjs): the forced cells as the released guide's own fill.sh prints them over the translation c6b9b14c0d15410a… (all of the seat's roots in one cut). By AI agents, Wed Nov 11 2026. No macro, syntax, notation, axiom, sorry.
-/
import Derived.Test.YtcihbmdppgpmjaaChecked
import GoSem.Claim
import GoSem.ClaimJoined
import GoSem.ClaimMapViews
import Derived.JoinedTies
import Derived.KernelRfl
namespace Go.Proofs.Ytcihbmdppgpmjaa
/- THE CELL 'sum', in the pinned program and in every row, IS THE sha256 OF THE DUMP (.gsa) THAT YtcihbmdppgpmjaaProg.lean LOADS. Nothing in Lean hashes anything: it is a label: what it is worth is what the hold of that sum in a sandbox is worth. -/
noncomputable def Try.pinned : Pinned := { name := "ytcihbmdppgpmjaa", sum := "c6b9b14c0d15410ae3d6669601576b269494a7ff50dee6741c78ef413fb5810c", checked := Try.checked }
namespace Rows
def none {H : Type} : Left H := { results := [], args := [] }

/-- 'laws.FnExactTrimAutomaton': WHATEVER THE INPUT: true; the input reads as it did. -/
def fnExactTrimAutomatonSpec : ChangeSpec := { name := "fnExactTrimAutomaton", fn := fun _ => fun
  | [d] => { results := [.lit (.bool true)], args := [d] }
  | _ => none }
def fnExactTrimAutomatonRow : OpenClaim := { program := "ytcihbmdppgpmjaa", sum := "c6b9b14c0d15410ae3d6669601576b269494a7ff50dee6741c78ef413fb5810c", func := "loop.example/g01922/laws.FnExactTrimAutomaton", spec := "fnExactTrimAutomaton", unfollowed := true, recurses := true, plainKeys := false, apart := false }
def FnExactTrimAutomatonSaid : Prop := fnExactTrimAutomatonRow.holds Try.pinned (OpenSpec.ofChange fnExactTrimAutomatonSpec)

/-- ITS FALSE NEIGHBOUR: 'it returns false'. Refute it at one input. -/
def fnExactTrimAutomatonWrong : ChangeSpec := { name := "fnExactTrimAutomaton", fn := fun _ => fun
  | [d] => { results := [.lit (.bool false)], args := [d] }
  | _ => none }
def FnExactTrimAutomatonWrongFalsely : Prop := fnExactTrimAutomatonRow.holds Try.pinned (OpenSpec.ofChange fnExactTrimAutomatonWrong)

/-- 'laws.FnExactIsMinimal': WHATEVER THE INPUT: true; the input reads as it did. -/
def fnExactIsMinimalSpec : ChangeSpec := { name := "fnExactIsMinimal", fn := fun _ => fun
  | [d] => { results := [.lit (.bool true)], args := [d] }
  | _ => none }
def fnExactIsMinimalRow : OpenClaim := { program := "ytcihbmdppgpmjaa", sum := "c6b9b14c0d15410ae3d6669601576b269494a7ff50dee6741c78ef413fb5810c", func := "loop.example/g01922/laws.FnExactIsMinimal", spec := "fnExactIsMinimal", unfollowed := true, recurses := true, plainKeys := false, apart := false }
def FnExactIsMinimalSaid : Prop := fnExactIsMinimalRow.holds Try.pinned (OpenSpec.ofChange fnExactIsMinimalSpec)

/-- ITS FALSE NEIGHBOUR: 'it returns false'. Refute it at one input. -/
def fnExactIsMinimalWrong : ChangeSpec := { name := "fnExactIsMinimal", fn := fun _ => fun
  | [d] => { results := [.lit (.bool false)], args := [d] }
  | _ => none }
def FnExactIsMinimalWrongFalsely : Prop := fnExactIsMinimalRow.holds Try.pinned (OpenSpec.ofChange fnExactIsMinimalWrong)

/-- 'laws.FnExactMinimize': WHATEVER THE INPUT: true; the input reads as it did. -/
def fnExactMinimizeSpec : ChangeSpec := { name := "fnExactMinimize", fn := fun _ => fun
  | [d] => { results := [.lit (.bool true)], args := [d] }
  | _ => none }
def fnExactMinimizeRow : OpenClaim := { program := "ytcihbmdppgpmjaa", sum := "c6b9b14c0d15410ae3d6669601576b269494a7ff50dee6741c78ef413fb5810c", func := "loop.example/g01922/laws.FnExactMinimize", spec := "fnExactMinimize", unfollowed := true, recurses := true, plainKeys := false, apart := false }
def FnExactMinimizeSaid : Prop := fnExactMinimizeRow.holds Try.pinned (OpenSpec.ofChange fnExactMinimizeSpec)

/-- ITS FALSE NEIGHBOUR: 'it returns false'. Refute it at one input. -/
def fnExactMinimizeWrong : ChangeSpec := { name := "fnExactMinimize", fn := fun _ => fun
  | [d] => { results := [.lit (.bool false)], args := [d] }
  | _ => none }
def FnExactMinimizeWrongFalsely : Prop := fnExactMinimizeRow.holds Try.pinned (OpenSpec.ofChange fnExactMinimizeWrong)

/-- 'laws.FnExactAuditView': WHATEVER THE INPUT: true; the input reads as it did. -/
def fnExactAuditViewSpec : ChangeSpec := { name := "fnExactAuditView", fn := fun _ => fun
  | [d1, d2] => { results := [.lit (.bool true)], args := [d1, d2] }
  | _ => none }
def fnExactAuditViewRow : OpenClaim := { program := "ytcihbmdppgpmjaa", sum := "c6b9b14c0d15410ae3d6669601576b269494a7ff50dee6741c78ef413fb5810c", func := "loop.example/g01922/laws.FnExactAuditView", spec := "fnExactAuditView", plainKeys := false, apart := false }
def FnExactAuditViewSaid : Prop := fnExactAuditViewRow.holds Try.pinned (OpenSpec.ofChange fnExactAuditViewSpec)

/-- ITS FALSE NEIGHBOUR: 'it returns false'. Refute it at one input. -/
def fnExactAuditViewWrong : ChangeSpec := { name := "fnExactAuditView", fn := fun _ => fun
  | [d1, d2] => { results := [.lit (.bool false)], args := [d1, d2] }
  | _ => none }
def FnExactAuditViewWrongFalsely : Prop := fnExactAuditViewRow.holds Try.pinned (OpenSpec.ofChange fnExactAuditViewWrong)

/-- 'laws.FnExactIntersectAutomata': WHATEVER THE INPUT: true; the input reads as it did. -/
def fnExactIntersectAutomataSpec : ChangeSpec := { name := "fnExactIntersectAutomata", fn := fun _ => fun
  | [d1, d2] => { results := [.lit (.bool true)], args := [d1, d2] }
  | _ => none }
def fnExactIntersectAutomataRow : OpenClaim := { program := "ytcihbmdppgpmjaa", sum := "c6b9b14c0d15410ae3d6669601576b269494a7ff50dee6741c78ef413fb5810c", func := "loop.example/g01922/laws.FnExactIntersectAutomata", spec := "fnExactIntersectAutomata", unfollowed := true, recurses := true, plainKeys := false, apart := false }
def FnExactIntersectAutomataSaid : Prop := fnExactIntersectAutomataRow.holds Try.pinned (OpenSpec.ofChange fnExactIntersectAutomataSpec)

/-- ITS FALSE NEIGHBOUR: 'it returns false'. Refute it at one input. -/
def fnExactIntersectAutomataWrong : ChangeSpec := { name := "fnExactIntersectAutomata", fn := fun _ => fun
  | [d1, d2] => { results := [.lit (.bool false)], args := [d1, d2] }
  | _ => none }
def FnExactIntersectAutomataWrongFalsely : Prop := fnExactIntersectAutomataRow.holds Try.pinned (OpenSpec.ofChange fnExactIntersectAutomataWrong)

/-- 'laws.FnExactSubtractAutomata': WHATEVER THE INPUT: true; the input reads as it did. -/
def fnExactSubtractAutomataSpec : ChangeSpec := { name := "fnExactSubtractAutomata", fn := fun _ => fun
  | [d1, d2] => { results := [.lit (.bool true)], args := [d1, d2] }
  | _ => none }
def fnExactSubtractAutomataRow : OpenClaim := { program := "ytcihbmdppgpmjaa", sum := "c6b9b14c0d15410ae3d6669601576b269494a7ff50dee6741c78ef413fb5810c", func := "loop.example/g01922/laws.FnExactSubtractAutomata", spec := "fnExactSubtractAutomata", unfollowed := true, recurses := true, plainKeys := false, apart := false }
def FnExactSubtractAutomataSaid : Prop := fnExactSubtractAutomataRow.holds Try.pinned (OpenSpec.ofChange fnExactSubtractAutomataSpec)

/-- ITS FALSE NEIGHBOUR: 'it returns false'. Refute it at one input. -/
def fnExactSubtractAutomataWrong : ChangeSpec := { name := "fnExactSubtractAutomata", fn := fun _ => fun
  | [d1, d2] => { results := [.lit (.bool false)], args := [d1, d2] }
  | _ => none }
def FnExactSubtractAutomataWrongFalsely : Prop := fnExactSubtractAutomataRow.holds Try.pinned (OpenSpec.ofChange fnExactSubtractAutomataWrong)

/-- 'laws.FnExactUniteAutomata': WHATEVER THE INPUT: true; the input reads as it did. -/
def fnExactUniteAutomataSpec : ChangeSpec := { name := "fnExactUniteAutomata", fn := fun _ => fun
  | [d1, d2] => { results := [.lit (.bool true)], args := [d1, d2] }
  | _ => none }
def fnExactUniteAutomataRow : OpenClaim := { program := "ytcihbmdppgpmjaa", sum := "c6b9b14c0d15410ae3d6669601576b269494a7ff50dee6741c78ef413fb5810c", func := "loop.example/g01922/laws.FnExactUniteAutomata", spec := "fnExactUniteAutomata", unfollowed := true, recurses := true, plainKeys := false, apart := false }
def FnExactUniteAutomataSaid : Prop := fnExactUniteAutomataRow.holds Try.pinned (OpenSpec.ofChange fnExactUniteAutomataSpec)

/-- ITS FALSE NEIGHBOUR: 'it returns false'. Refute it at one input. -/
def fnExactUniteAutomataWrong : ChangeSpec := { name := "fnExactUniteAutomata", fn := fun _ => fun
  | [d1, d2] => { results := [.lit (.bool false)], args := [d1, d2] }
  | _ => none }
def FnExactUniteAutomataWrongFalsely : Prop := fnExactUniteAutomataRow.holds Try.pinned (OpenSpec.ofChange fnExactUniteAutomataWrong)

/-- 'laws.FnExactComplementAutomaton': WHATEVER THE INPUT: true; the input reads as it did. -/
def fnExactComplementAutomatonSpec : ChangeSpec := { name := "fnExactComplementAutomaton", fn := fun _ => fun
  | [d] => { results := [.lit (.bool true)], args := [d] }
  | _ => none }
def fnExactComplementAutomatonRow : OpenClaim := { program := "ytcihbmdppgpmjaa", sum := "c6b9b14c0d15410ae3d6669601576b269494a7ff50dee6741c78ef413fb5810c", func := "loop.example/g01922/laws.FnExactComplementAutomaton", spec := "fnExactComplementAutomaton", unfollowed := true, recurses := true, plainKeys := false, apart := false }
def FnExactComplementAutomatonSaid : Prop := fnExactComplementAutomatonRow.holds Try.pinned (OpenSpec.ofChange fnExactComplementAutomatonSpec)

/-- ITS FALSE NEIGHBOUR: 'it returns false'. Refute it at one input. -/
def fnExactComplementAutomatonWrong : ChangeSpec := { name := "fnExactComplementAutomaton", fn := fun _ => fun
  | [d] => { results := [.lit (.bool false)], args := [d] }
  | _ => none }
def FnExactComplementAutomatonWrongFalsely : Prop := fnExactComplementAutomatonRow.holds Try.pinned (OpenSpec.ofChange fnExactComplementAutomatonWrong)

/-- 'laws.FnExactEqualEngines': WHATEVER THE INPUT: true; the input reads as it did. -/
def fnExactEqualEnginesSpec : ChangeSpec := { name := "fnExactEqualEngines", fn := fun _ => fun
  | [d1, d2] => { results := [.lit (.bool true)], args := [d1, d2] }
  | _ => none }
def fnExactEqualEnginesRow : OpenClaim := { program := "ytcihbmdppgpmjaa", sum := "c6b9b14c0d15410ae3d6669601576b269494a7ff50dee6741c78ef413fb5810c", func := "loop.example/g01922/laws.FnExactEqualEngines", spec := "fnExactEqualEngines", unfollowed := true, recurses := true, plainKeys := false, apart := false }
def FnExactEqualEnginesSaid : Prop := fnExactEqualEnginesRow.holds Try.pinned (OpenSpec.ofChange fnExactEqualEnginesSpec)

/-- ITS FALSE NEIGHBOUR: 'it returns false'. Refute it at one input. -/
def fnExactEqualEnginesWrong : ChangeSpec := { name := "fnExactEqualEngines", fn := fun _ => fun
  | [d1, d2] => { results := [.lit (.bool false)], args := [d1, d2] }
  | _ => none }
def FnExactEqualEnginesWrongFalsely : Prop := fnExactEqualEnginesRow.holds Try.pinned (OpenSpec.ofChange fnExactEqualEnginesWrong)

/- THE SECOND FORM. 'bulk': how many values and letters a reading holds, each counted each time it is reached (what is shared counts as often as it is met; a slice's spare places count too). A statement '..UptoSaid' is the law's where the arguments, and the package variables that the reading takes, are together of bulk at most 1048576: NARROWER than '..Said'. Prove '..Said' where nothing that the law and all that it calls make is longer than what came in: it says more and counts as full. Else prove '..UptoSaid'. A law counts once. -/
mutual
def uptoBulk {H : Type} : DataW H → Nat
  | .lit (.string bytes) => bytes.length + 1
  | .lit _ => 1
  | .nil => 1
  | .ptr d => uptoBulk d + 1
  | .slice elems spare => uptoBulkAll elems + uptoBulkAll spare + 1
  | .agg parts => uptoBulkAll parts + 1
  | .iface _ d => uptoBulk d + 1
  | .map entries => uptoBulkEntries entries + 1
  | .held _ => 1
def uptoBulkAll {H : Type} : List (DataW H) → Nat
  | [] => 0
  | d :: r => uptoBulk d + uptoBulkAll r
def uptoBulkEntries {H : Type} : List (Lit × DataW H) → Nat
  | [] => 0
  | x :: r => uptoBulkEntry x + uptoBulkEntries r
def uptoBulkEntry {H : Type} : Lit × DataW H → Nat
  | (.string bytes, d) => bytes.length + uptoBulk d + 1
  | (_, d) => uptoBulk d + 1
 end
def uptoSmall : (H : Type) → List (DataW H) → Bool := fun _ ds => decide (uptoBulkAll ds ≤ 1048576)
def OpenSpec.upto (s : _root_.Go.ChangeSpec) : _root_.Go.OpenSpec := { _root_.Go.OpenSpec.ofChange s with cond := some uptoSmall }

/-- 'laws.FnExactTrimAutomaton', WHERE WHAT IT READS IS OF BULK AT MOST 1048576: true; the input reads as it did. -/
def fnExactTrimAutomatonUptoRow : OpenClaim := { program := "ytcihbmdppgpmjaa", sum := "c6b9b14c0d15410ae3d6669601576b269494a7ff50dee6741c78ef413fb5810c", func := "loop.example/g01922/laws.FnExactTrimAutomaton", spec := "fnExactTrimAutomaton", unfollowed := true, recurses := true, plainKeys := false, apart := false, narrowed := true }
def FnExactTrimAutomatonUptoSaid : Prop := fnExactTrimAutomatonUptoRow.holds Try.pinned (OpenSpec.upto fnExactTrimAutomatonSpec)

/-- 'laws.FnExactIsMinimal', WHERE WHAT IT READS IS OF BULK AT MOST 1048576: true; the input reads as it did. -/
def fnExactIsMinimalUptoRow : OpenClaim := { program := "ytcihbmdppgpmjaa", sum := "c6b9b14c0d15410ae3d6669601576b269494a7ff50dee6741c78ef413fb5810c", func := "loop.example/g01922/laws.FnExactIsMinimal", spec := "fnExactIsMinimal", unfollowed := true, recurses := true, plainKeys := false, apart := false, narrowed := true }
def FnExactIsMinimalUptoSaid : Prop := fnExactIsMinimalUptoRow.holds Try.pinned (OpenSpec.upto fnExactIsMinimalSpec)

/-- 'laws.FnExactMinimize', WHERE WHAT IT READS IS OF BULK AT MOST 1048576: true; the input reads as it did. -/
def fnExactMinimizeUptoRow : OpenClaim := { program := "ytcihbmdppgpmjaa", sum := "c6b9b14c0d15410ae3d6669601576b269494a7ff50dee6741c78ef413fb5810c", func := "loop.example/g01922/laws.FnExactMinimize", spec := "fnExactMinimize", unfollowed := true, recurses := true, plainKeys := false, apart := false, narrowed := true }
def FnExactMinimizeUptoSaid : Prop := fnExactMinimizeUptoRow.holds Try.pinned (OpenSpec.upto fnExactMinimizeSpec)

/-- 'laws.FnExactAuditView', WHERE WHAT IT READS IS OF BULK AT MOST 1048576: true; the input reads as it did. -/
def fnExactAuditViewUptoRow : OpenClaim := { program := "ytcihbmdppgpmjaa", sum := "c6b9b14c0d15410ae3d6669601576b269494a7ff50dee6741c78ef413fb5810c", func := "loop.example/g01922/laws.FnExactAuditView", spec := "fnExactAuditView", plainKeys := false, apart := false, narrowed := true }
def FnExactAuditViewUptoSaid : Prop := fnExactAuditViewUptoRow.holds Try.pinned (OpenSpec.upto fnExactAuditViewSpec)

/-- 'laws.FnExactIntersectAutomata', WHERE WHAT IT READS IS OF BULK AT MOST 1048576: true; the input reads as it did. -/
def fnExactIntersectAutomataUptoRow : OpenClaim := { program := "ytcihbmdppgpmjaa", sum := "c6b9b14c0d15410ae3d6669601576b269494a7ff50dee6741c78ef413fb5810c", func := "loop.example/g01922/laws.FnExactIntersectAutomata", spec := "fnExactIntersectAutomata", unfollowed := true, recurses := true, plainKeys := false, apart := false, narrowed := true }
def FnExactIntersectAutomataUptoSaid : Prop := fnExactIntersectAutomataUptoRow.holds Try.pinned (OpenSpec.upto fnExactIntersectAutomataSpec)

/-- 'laws.FnExactSubtractAutomata', WHERE WHAT IT READS IS OF BULK AT MOST 1048576: true; the input reads as it did. -/
def fnExactSubtractAutomataUptoRow : OpenClaim := { program := "ytcihbmdppgpmjaa", sum := "c6b9b14c0d15410ae3d6669601576b269494a7ff50dee6741c78ef413fb5810c", func := "loop.example/g01922/laws.FnExactSubtractAutomata", spec := "fnExactSubtractAutomata", unfollowed := true, recurses := true, plainKeys := false, apart := false, narrowed := true }
def FnExactSubtractAutomataUptoSaid : Prop := fnExactSubtractAutomataUptoRow.holds Try.pinned (OpenSpec.upto fnExactSubtractAutomataSpec)

/-- 'laws.FnExactUniteAutomata', WHERE WHAT IT READS IS OF BULK AT MOST 1048576: true; the input reads as it did. -/
def fnExactUniteAutomataUptoRow : OpenClaim := { program := "ytcihbmdppgpmjaa", sum := "c6b9b14c0d15410ae3d6669601576b269494a7ff50dee6741c78ef413fb5810c", func := "loop.example/g01922/laws.FnExactUniteAutomata", spec := "fnExactUniteAutomata", unfollowed := true, recurses := true, plainKeys := false, apart := false, narrowed := true }
def FnExactUniteAutomataUptoSaid : Prop := fnExactUniteAutomataUptoRow.holds Try.pinned (OpenSpec.upto fnExactUniteAutomataSpec)

/-- 'laws.FnExactComplementAutomaton', WHERE WHAT IT READS IS OF BULK AT MOST 1048576: true; the input reads as it did. -/
def fnExactComplementAutomatonUptoRow : OpenClaim := { program := "ytcihbmdppgpmjaa", sum := "c6b9b14c0d15410ae3d6669601576b269494a7ff50dee6741c78ef413fb5810c", func := "loop.example/g01922/laws.FnExactComplementAutomaton", spec := "fnExactComplementAutomaton", unfollowed := true, recurses := true, plainKeys := false, apart := false, narrowed := true }
def FnExactComplementAutomatonUptoSaid : Prop := fnExactComplementAutomatonUptoRow.holds Try.pinned (OpenSpec.upto fnExactComplementAutomatonSpec)

/-- 'laws.FnExactEqualEngines', WHERE WHAT IT READS IS OF BULK AT MOST 1048576: true; the input reads as it did. -/
def fnExactEqualEnginesUptoRow : OpenClaim := { program := "ytcihbmdppgpmjaa", sum := "c6b9b14c0d15410ae3d6669601576b269494a7ff50dee6741c78ef413fb5810c", func := "loop.example/g01922/laws.FnExactEqualEngines", spec := "fnExactEqualEngines", unfollowed := true, recurses := true, plainKeys := false, apart := false, narrowed := true }
def FnExactEqualEnginesUptoSaid : Prop := fnExactEqualEnginesUptoRow.holds Try.pinned (OpenSpec.upto fnExactEqualEnginesSpec)

end Rows
end Go.Proofs.Ytcihbmdppgpmjaa
