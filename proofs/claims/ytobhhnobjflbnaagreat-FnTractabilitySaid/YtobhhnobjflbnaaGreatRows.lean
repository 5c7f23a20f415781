/-
  No cell of these rows narrows 'for every input' (looked for: loops, veiled, ifaces, maps, wideKeys, modest, calm, conditions, laid).
  DERIVED. THE GIVEN ROWS OF THIS SEAT. 5 by the template 'for every input the law returns true; each argument reads behind the call as it read before'; 0 by the template 'total and deterministic' (their statements: YtobhhnobjflbnaaGreatTotals.lean).
  GIVEN WITH THE SEED: the statements are not yours to turn. If you find one false, say at which input.
  Laid BY PROGRAM, IN A SANDBOX (cutbox-rows.mjs): the forced cells as the released guide's own fill.sh prints them over the translation b666419cf7a59a73… (all of the seat's roots in one cut). By AI agents, Wed Nov 11 2026. No macro, syntax, notation, axiom, sorry.
-/
import Derived.Test.YtobhhnobjflbnaaGreatChecked
import GoSem.Claim
import GoSem.ClaimJoined
import GoSem.ClaimMapViews
import Derived.JoinedTies
import Derived.KernelRfl
namespace Go.Proofs.YtobhhnobjflbnaaGreat
/- THE CELL 'sum', in the pinned program and in every row, IS THE sha256 OF THE DUMP (.gsa) THAT YtobhhnobjflbnaaGreatProg.lean LOADS. Nothing in Lean hashes anything: it is a label: what it is worth is what the hold of that sum in a sandbox is worth. -/
noncomputable def Tryz.pinned : Pinned := { name := "ytobhhnobjflbnaagreat", sum := "b666419cf7a59a7330c127d37f1fdedd276dce2f649b91f332edaf28703f220d", checked := Tryz.checked }
namespace Rows
def none {H : Type} : Left H := { results := [], args := [] }

/-- 'laws.FnBoolean': WHATEVER THE INPUT: true; the input reads as it did. -/
def fnBooleanSpec : ChangeSpec := { name := "fnBoolean", fn := fun _ => fun
  | [d] => { results := [.lit (.bool true)], args := [d] }
  | _ => none }
def fnBooleanRow : OpenClaim := { program := "ytobhhnobjflbnaagreat", sum := "b666419cf7a59a7330c127d37f1fdedd276dce2f649b91f332edaf28703f220d", func := "loop.example/g01922/laws.FnBoolean", spec := "fnBoolean", unfollowed := true, recurses := true, plainKeys := false, apart := false }
def FnBooleanSaid : Prop := fnBooleanRow.holds Tryz.pinned (OpenSpec.ofChange fnBooleanSpec)

/-- ITS FALSE NEIGHBOUR: 'it returns false'. Refute it at one input. -/
def fnBooleanWrong : ChangeSpec := { name := "fnBoolean", fn := fun _ => fun
  | [d] => { results := [.lit (.bool false)], args := [d] }
  | _ => none }
def FnBooleanWrongFalsely : Prop := fnBooleanRow.holds Tryz.pinned (OpenSpec.ofChange fnBooleanWrong)

/-- 'laws.FnSupports': WHATEVER THE INPUT: true; the input reads as it did. -/
def fnSupportsSpec : ChangeSpec := { name := "fnSupports", fn := fun _ => fun
  | [d] => { results := [.lit (.bool true)], args := [d] }
  | _ => none }
def fnSupportsRow : OpenClaim := { program := "ytobhhnobjflbnaagreat", sum := "b666419cf7a59a7330c127d37f1fdedd276dce2f649b91f332edaf28703f220d", func := "loop.example/g01922/laws.FnSupports", spec := "fnSupports", unfollowed := true, recurses := true, plainKeys := false, apart := false }
def FnSupportsSaid : Prop := fnSupportsRow.holds Tryz.pinned (OpenSpec.ofChange fnSupportsSpec)

/-- ITS FALSE NEIGHBOUR: 'it returns false'. Refute it at one input. -/
def fnSupportsWrong : ChangeSpec := { name := "fnSupports", fn := fun _ => fun
  | [d] => { results := [.lit (.bool false)], args := [d] }
  | _ => none }
def FnSupportsWrongFalsely : Prop := fnSupportsRow.holds Tryz.pinned (OpenSpec.ofChange fnSupportsWrong)

/-- 'laws.FnDeterminism': WHATEVER THE INPUT: true; the input reads as it did. -/
def fnDeterminismSpec : ChangeSpec := { name := "fnDeterminism", fn := fun _ => fun
  | [d] => { results := [.lit (.bool true)], args := [d] }
  | _ => none }
def fnDeterminismRow : OpenClaim := { program := "ytobhhnobjflbnaagreat", sum := "b666419cf7a59a7330c127d37f1fdedd276dce2f649b91f332edaf28703f220d", func := "loop.example/g01922/laws.FnDeterminism", spec := "fnDeterminism", unfollowed := true, recurses := true, plainKeys := false, apart := false }
def FnDeterminismSaid : Prop := fnDeterminismRow.holds Tryz.pinned (OpenSpec.ofChange fnDeterminismSpec)

/-- ITS FALSE NEIGHBOUR: 'it returns false'. Refute it at one input. -/
def fnDeterminismWrong : ChangeSpec := { name := "fnDeterminism", fn := fun _ => fun
  | [d] => { results := [.lit (.bool false)], args := [d] }
  | _ => none }
def FnDeterminismWrongFalsely : Prop := fnDeterminismRow.holds Tryz.pinned (OpenSpec.ofChange fnDeterminismWrong)

/-- 'laws.FnRegistry': WHATEVER THE INPUT: true; the input reads as it did. -/
def fnRegistrySpec : ChangeSpec := { name := "fnRegistry", fn := fun _ => fun
  | [d] => { results := [.lit (.bool true)], args := [d] }
  | _ => none }
def fnRegistryRow : OpenClaim := { program := "ytobhhnobjflbnaagreat", sum := "b666419cf7a59a7330c127d37f1fdedd276dce2f649b91f332edaf28703f220d", func := "loop.example/g01922/laws.FnRegistry", spec := "fnRegistry", inPlace := ["slices.overlaps[loop.example/g01922/impl.Registered]"], unfollowed := true, recurses := true, plainKeys := false, apart := false }
def FnRegistrySaid : Prop := fnRegistryRow.holds Tryz.pinned (OpenSpec.ofChange fnRegistrySpec)

/-- ITS FALSE NEIGHBOUR: 'it returns false'. Refute it at one input. -/
def fnRegistryWrong : ChangeSpec := { name := "fnRegistry", fn := fun _ => fun
  | [d] => { results := [.lit (.bool false)], args := [d] }
  | _ => none }
def FnRegistryWrongFalsely : Prop := fnRegistryRow.holds Tryz.pinned (OpenSpec.ofChange fnRegistryWrong)

/-- 'laws.FnTractability': WHATEVER THE INPUT: true; the input reads as it did. -/
def fnTractabilitySpec : ChangeSpec := { name := "fnTractability", fn := fun _ => fun
  | [d] => { results := [.lit (.bool true)], args := [d] }
  | _ => none }
def fnTractabilityRow : OpenClaim := { program := "ytobhhnobjflbnaagreat", sum := "b666419cf7a59a7330c127d37f1fdedd276dce2f649b91f332edaf28703f220d", func := "loop.example/g01922/laws.FnTractability", spec := "fnTractability", unfollowed := true, recurses := true, plainKeys := false, apart := false }
def FnTractabilitySaid : Prop := fnTractabilityRow.holds Tryz.pinned (OpenSpec.ofChange fnTractabilitySpec)

/-- ITS FALSE NEIGHBOUR: 'it returns false'. Refute it at one input. -/
def fnTractabilityWrong : ChangeSpec := { name := "fnTractability", fn := fun _ => fun
  | [d] => { results := [.lit (.bool false)], args := [d] }
  | _ => none }
def FnTractabilityWrongFalsely : Prop := fnTractabilityRow.holds Tryz.pinned (OpenSpec.ofChange fnTractabilityWrong)

/- THE SECOND FORM. 'bulk': how many values and letters a reading holds, each counted each time it is reached (what is shared counts as often as it is met; a slice's spare places count too). A statement '..UptoSaid' is the law's where the arguments, and the package variables that the reading takes, are together of bulk at most 1048576: NARROWER than '..Said'. Prove '..Said' where nothing that the law and all that it calls make is longer than what came in: it says more and counts as full. Else prove '..UptoSaid'. A law counts once. -/
mutual
def uptoBulk {H : Type} : DataW H → Nat
  | .lit (.string bytes) => bytes.length + 1
  | .lit _ => 1
  | .nil => 1
  | .ptr d => uptoBulk d + 1
  | .slice elems spare => uptoBulkAll elems + uptoBulkAll spare + 1
  | .agg parts => uptoBulkAll parts + 1
  | .iface _ d => uptoBulk d + 1
  | .map entries => uptoBulkEntries entries + 1
  | .held _ => 1
def uptoBulkAll {H : Type} : List (DataW H) → Nat
  | [] => 0
  | d :: r => uptoBulk d + uptoBulkAll r
def uptoBulkEntries {H : Type} : List (Lit × DataW H) → Nat
  | [] => 0
  | x :: r => uptoBulkEntry x + uptoBulkEntries r
def uptoBulkEntry {H : Type} : Lit × DataW H → Nat
  | (.string bytes, d) => bytes.length + uptoBulk d + 1
  | (_, d) => uptoBulk d + 1
 end
def uptoSmall : (H : Type) → List (DataW H) → Bool := fun _ ds => decide (uptoBulkAll ds ≤ 1048576)
def OpenSpec.upto (s : _root_.Go.ChangeSpec) : _root_.Go.OpenSpec := { _root_.Go.OpenSpec.ofChange s with cond := some uptoSmall }

/-- 'laws.FnBoolean', WHERE WHAT IT READS IS OF BULK AT MOST 1048576: true; the input reads as it did. -/
def fnBooleanUptoRow : OpenClaim := { program := "ytobhhnobjflbnaagreat", sum := "b666419cf7a59a7330c127d37f1fdedd276dce2f649b91f332edaf28703f220d", func := "loop.example/g01922/laws.FnBoolean", spec := "fnBoolean", unfollowed := true, recurses := true, plainKeys := false, apart := false, narrowed := true }
def FnBooleanUptoSaid : Prop := fnBooleanUptoRow.holds Tryz.pinned (OpenSpec.upto fnBooleanSpec)

/-- 'laws.FnSupports', WHERE WHAT IT READS IS OF BULK AT MOST 1048576: true; the input reads as it did. -/
def fnSupportsUptoRow : OpenClaim := { program := "ytobhhnobjflbnaagreat", sum := "b666419cf7a59a7330c127d37f1fdedd276dce2f649b91f332edaf28703f220d", func := "loop.example/g01922/laws.FnSupports", spec := "fnSupports", unfollowed := true, recurses := true, plainKeys := false, apart := false, narrowed := true }
def FnSupportsUptoSaid : Prop := fnSupportsUptoRow.holds Tryz.pinned (OpenSpec.upto fnSupportsSpec)

/-- 'laws.FnDeterminism', WHERE WHAT IT READS IS OF BULK AT MOST 1048576: true; the input reads as it did. -/
def fnDeterminismUptoRow : OpenClaim := { program := "ytobhhnobjflbnaagreat", sum := "b666419cf7a59a7330c127d37f1fdedd276dce2f649b91f332edaf28703f220d", func := "loop.example/g01922/laws.FnDeterminism", spec := "fnDeterminism", unfollowed := true, recurses := true, plainKeys := false, apart := false, narrowed := true }
def FnDeterminismUptoSaid : Prop := fnDeterminismUptoRow.holds Tryz.pinned (OpenSpec.upto fnDeterminismSpec)

/-- 'laws.FnRegistry', WHERE WHAT IT READS IS OF BULK AT MOST 1048576: true; the input reads as it did. -/
def fnRegistryUptoRow : OpenClaim := { program := "ytobhhnobjflbnaagreat", sum := "b666419cf7a59a7330c127d37f1fdedd276dce2f649b91f332edaf28703f220d", func := "loop.example/g01922/laws.FnRegistry", spec := "fnRegistry", inPlace := ["slices.overlaps[loop.example/g01922/impl.Registered]"], unfollowed := true, recurses := true, plainKeys := false, apart := false, narrowed := true }
def FnRegistryUptoSaid : Prop := fnRegistryUptoRow.holds Tryz.pinned (OpenSpec.upto fnRegistrySpec)

/-- 'laws.FnTractability', WHERE WHAT IT READS IS OF BULK AT MOST 1048576: true; the input reads as it did. -/
def fnTractabilityUptoRow : OpenClaim := { program := "ytobhhnobjflbnaagreat", sum := "b666419cf7a59a7330c127d37f1fdedd276dce2f649b91f332edaf28703f220d", func := "loop.example/g01922/laws.FnTractability", spec := "fnTractability", unfollowed := true, recurses := true, plainKeys := false, apart := false, narrowed := true }
def FnTractabilityUptoSaid : Prop := fnTractabilityUptoRow.holds Tryz.pinned (OpenSpec.upto fnTractabilitySpec)

end Rows
end Go.Proofs.YtobhhnobjflbnaaGreat
