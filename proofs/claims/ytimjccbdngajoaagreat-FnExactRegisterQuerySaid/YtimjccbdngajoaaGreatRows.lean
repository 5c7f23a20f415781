/-
  No cell of these rows narrows 'for every input' (looked for: loops, veiled, ifaces, maps, wideKeys, modest, calm, conditions, laid).
  DERIVED. THE GIVEN ROWS OF THIS SEAT. 6 by the template 'for every input the law returns true; each argument reads behind the call as it read before'; 0 by the template 'total and deterministic' (their statements: YtimjccbdngajoaaGreatTotals.lean).
  GIVEN WITH THE SEED: the statements are not yours to turn. If you find one false, say at which input.
  Laid BY PROGRAM, IN A SANDBOX (cutbox-rows.mjs): the forced cells as the released guide's own fill.sh prints them over the translation 3a1a3a6381334330… (all of the seat's roots in one cut). By AI agents, Wed Nov 11 2026. No macro, syntax, notation, axiom, sorry.
-/
import Derived.Test.YtimjccbdngajoaaGreatChecked
import GoSem.Claim
import GoSem.ClaimJoined
import GoSem.ClaimMapViews
import Derived.JoinedTies
import Derived.KernelRfl
namespace Go.Proofs.YtimjccbdngajoaaGreat
/- THE CELL 'sum', in the pinned program and in every row, IS THE sha256 OF THE DUMP (.gsa) THAT YtimjccbdngajoaaGreatProg.lean LOADS. Nothing in Lean hashes anything: it is a label: what it is worth is what the hold of that sum in a sandbox is worth. -/
noncomputable def Tryz.pinned : Pinned := { name := "ytimjccbdngajoaagreat", sum := "3a1a3a6381334330b4ced385219e4f7090479498e8e2204190487ce00eebf8fe", checked := Tryz.checked }
namespace Rows
def none {H : Type} : Left H := { results := [], args := [] }

/-- 'laws.FnExactIsValidRegistry': WHATEVER THE INPUT: true; the input reads as it did. -/
def fnExactIsValidRegistrySpec : ChangeSpec := { name := "fnExactIsValidRegistry", fn := fun _ => fun
  | [d] => { results := [.lit (.bool true)], args := [d] }
  | _ => none }
def fnExactIsValidRegistryRow : OpenClaim := { program := "ytimjccbdngajoaagreat", sum := "3a1a3a6381334330b4ced385219e4f7090479498e8e2204190487ce00eebf8fe", func := "loop.example/g01922/laws.FnExactIsValidRegistry", spec := "fnExactIsValidRegistry", unfollowed := true, recurses := true, plainKeys := false, apart := false }
def FnExactIsValidRegistrySaid : Prop := fnExactIsValidRegistryRow.holds Tryz.pinned (OpenSpec.ofChange fnExactIsValidRegistrySpec)

/-- ITS FALSE NEIGHBOUR: 'it returns false'. Refute it at one input. -/
def fnExactIsValidRegistryWrong : ChangeSpec := { name := "fnExactIsValidRegistry", fn := fun _ => fun
  | [d] => { results := [.lit (.bool false)], args := [d] }
  | _ => none }
def FnExactIsValidRegistryWrongFalsely : Prop := fnExactIsValidRegistryRow.holds Tryz.pinned (OpenSpec.ofChange fnExactIsValidRegistryWrong)

/-- 'laws.FnExactQueryAutomaton': WHATEVER THE INPUT: true; the input reads as it did. -/
def fnExactQueryAutomatonSpec : ChangeSpec := { name := "fnExactQueryAutomaton", fn := fun _ => fun
  | [d1, d2] => { results := [.lit (.bool true)], args := [d1, d2] }
  | _ => none }
def fnExactQueryAutomatonRow : OpenClaim := { program := "ytimjccbdngajoaagreat", sum := "3a1a3a6381334330b4ced385219e4f7090479498e8e2204190487ce00eebf8fe", func := "loop.example/g01922/laws.FnExactQueryAutomaton", spec := "fnExactQueryAutomaton", unfollowed := true, recurses := true, plainKeys := false, apart := false }
def FnExactQueryAutomatonSaid : Prop := fnExactQueryAutomatonRow.holds Tryz.pinned (OpenSpec.ofChange fnExactQueryAutomatonSpec)

/-- ITS FALSE NEIGHBOUR: 'it returns false'. Refute it at one input. -/
def fnExactQueryAutomatonWrong : ChangeSpec := { name := "fnExactQueryAutomaton", fn := fun _ => fun
  | [d1, d2] => { results := [.lit (.bool false)], args := [d1, d2] }
  | _ => none }
def FnExactQueryAutomatonWrongFalsely : Prop := fnExactQueryAutomatonRow.holds Tryz.pinned (OpenSpec.ofChange fnExactQueryAutomatonWrong)

/-- 'laws.FnRegistry': WHATEVER THE INPUT: true; the input reads as it did. -/
def fnRegistrySpec : ChangeSpec := { name := "fnRegistry", fn := fun _ => fun
  | [d] => { results := [.lit (.bool true)], args := [d] }
  | _ => none }
def fnRegistryRow : OpenClaim := { program := "ytimjccbdngajoaagreat", sum := "3a1a3a6381334330b4ced385219e4f7090479498e8e2204190487ce00eebf8fe", func := "loop.example/g01922/laws.FnRegistry", spec := "fnRegistry", inPlace := ["slices.overlaps[loop.example/g01922/impl.Registered]"], unfollowed := true, recurses := true, plainKeys := false, apart := false }
def FnRegistrySaid : Prop := fnRegistryRow.holds Tryz.pinned (OpenSpec.ofChange fnRegistrySpec)

/-- ITS FALSE NEIGHBOUR: 'it returns false'. Refute it at one input. -/
def fnRegistryWrong : ChangeSpec := { name := "fnRegistry", fn := fun _ => fun
  | [d] => { results := [.lit (.bool false)], args := [d] }
  | _ => none }
def FnRegistryWrongFalsely : Prop := fnRegistryRow.holds Tryz.pinned (OpenSpec.ofChange fnRegistryWrong)

/-- 'laws.FnExactUnregisterQuery': WHATEVER THE INPUT: true; the input reads as it did. -/
def fnExactUnregisterQuerySpec : ChangeSpec := { name := "fnExactUnregisterQuery", fn := fun _ => fun
  | [d1, d2] => { results := [.lit (.bool true)], args := [d1, d2] }
  | _ => none }
def fnExactUnregisterQueryRow : OpenClaim := { program := "ytimjccbdngajoaagreat", sum := "3a1a3a6381334330b4ced385219e4f7090479498e8e2204190487ce00eebf8fe", func := "loop.example/g01922/laws.FnExactUnregisterQuery", spec := "fnExactUnregisterQuery", unfollowed := true, recurses := true, plainKeys := false, apart := false }
def FnExactUnregisterQuerySaid : Prop := fnExactUnregisterQueryRow.holds Tryz.pinned (OpenSpec.ofChange fnExactUnregisterQuerySpec)

/-- ITS FALSE NEIGHBOUR: 'it returns false'. Refute it at one input. -/
def fnExactUnregisterQueryWrong : ChangeSpec := { name := "fnExactUnregisterQuery", fn := fun _ => fun
  | [d1, d2] => { results := [.lit (.bool false)], args := [d1, d2] }
  | _ => none }
def FnExactUnregisterQueryWrongFalsely : Prop := fnExactUnregisterQueryRow.holds Tryz.pinned (OpenSpec.ofChange fnExactUnregisterQueryWrong)

/-- 'laws.FnExactIncludedQueries': WHATEVER THE INPUT: true; the input reads as it did. -/
def fnExactIncludedQueriesSpec : ChangeSpec := { name := "fnExactIncludedQueries", fn := fun _ => fun
  | [d1, d2] => { results := [.lit (.bool true)], args := [d1, d2] }
  | _ => none }
def fnExactIncludedQueriesRow : OpenClaim := { program := "ytimjccbdngajoaagreat", sum := "3a1a3a6381334330b4ced385219e4f7090479498e8e2204190487ce00eebf8fe", func := "loop.example/g01922/laws.FnExactIncludedQueries", spec := "fnExactIncludedQueries", unfollowed := true, recurses := true, plainKeys := false, apart := false }
def FnExactIncludedQueriesSaid : Prop := fnExactIncludedQueriesRow.holds Tryz.pinned (OpenSpec.ofChange fnExactIncludedQueriesSpec)

/-- ITS FALSE NEIGHBOUR: 'it returns false'. Refute it at one input. -/
def fnExactIncludedQueriesWrong : ChangeSpec := { name := "fnExactIncludedQueries", fn := fun _ => fun
  | [d1, d2] => { results := [.lit (.bool false)], args := [d1, d2] }
  | _ => none }
def FnExactIncludedQueriesWrongFalsely : Prop := fnExactIncludedQueriesRow.holds Tryz.pinned (OpenSpec.ofChange fnExactIncludedQueriesWrong)

/-- 'laws.FnExactRegisterQuery': WHATEVER THE INPUT: true; the input reads as it did. -/
def fnExactRegisterQuerySpec : ChangeSpec := { name := "fnExactRegisterQuery", fn := fun _ => fun
  | [d1, d2, d3] => { results := [.lit (.bool true)], args := [d1, d2, d3] }
  | _ => none }
def fnExactRegisterQueryRow : OpenClaim := { program := "ytimjccbdngajoaagreat", sum := "3a1a3a6381334330b4ced385219e4f7090479498e8e2204190487ce00eebf8fe", func := "loop.example/g01922/laws.FnExactRegisterQuery", spec := "fnExactRegisterQuery", inPlace := ["slices.overlaps[loop.example/g01922/impl.Registered]"], unfollowed := true, recurses := true, plainKeys := false, apart := false }
def FnExactRegisterQuerySaid : Prop := fnExactRegisterQueryRow.holds Tryz.pinned (OpenSpec.ofChange fnExactRegisterQuerySpec)

/-- ITS FALSE NEIGHBOUR: 'it returns false'. Refute it at one input. -/
def fnExactRegisterQueryWrong : ChangeSpec := { name := "fnExactRegisterQuery", fn := fun _ => fun
  | [d1, d2, d3] => { results := [.lit (.bool false)], args := [d1, d2, d3] }
  | _ => none }
def FnExactRegisterQueryWrongFalsely : Prop := fnExactRegisterQueryRow.holds Tryz.pinned (OpenSpec.ofChange fnExactRegisterQueryWrong)

/- THE SECOND FORM. 'bulk': how many values and letters a reading holds, each counted each time it is reached (what is shared counts as often as it is met; a slice's spare places count too). A statement '..UptoSaid' is the law's where the arguments, and the package variables that the reading takes, are together of bulk at most 1048576: NARROWER than '..Said'. Prove '..Said' where nothing that the law and all that it calls make is longer than what came in: it says more and counts as full. Else prove '..UptoSaid'. A law counts once. -/
mutual
def uptoBulk {H : Type} : DataW H → Nat
  | .lit (.string bytes) => bytes.length + 1
  | .lit _ => 1
  | .nil => 1
  | .ptr d => uptoBulk d + 1
  | .slice elems spare => uptoBulkAll elems + uptoBulkAll spare + 1
  | .agg parts => uptoBulkAll parts + 1
  | .iface _ d => uptoBulk d + 1
  | .map entries => uptoBulkEntries entries + 1
  | .held _ => 1
def uptoBulkAll {H : Type} : List (DataW H) → Nat
  | [] => 0
  | d :: r => uptoBulk d + uptoBulkAll r
def uptoBulkEntries {H : Type} : List (Lit × DataW H) → Nat
  | [] => 0
  | x :: r => uptoBulkEntry x + uptoBulkEntries r
def uptoBulkEntry {H : Type} : Lit × DataW H → Nat
  | (.string bytes, d) => bytes.length + uptoBulk d + 1
  | (_, d) => uptoBulk d + 1
 end
def uptoSmall : (H : Type) → List (DataW H) → Bool := fun _ ds => decide (uptoBulkAll ds ≤ 1048576)
def OpenSpec.upto (s : _root_.Go.ChangeSpec) : _root_.Go.OpenSpec := { _root_.Go.OpenSpec.ofChange s with cond := some uptoSmall }

/-- 'laws.FnExactIsValidRegistry', WHERE WHAT IT READS IS OF BULK AT MOST 1048576: true; the input reads as it did. -/
def fnExactIsValidRegistryUptoRow : OpenClaim := { program := "ytimjccbdngajoaagreat", sum := "3a1a3a6381334330b4ced385219e4f7090479498e8e2204190487ce00eebf8fe", func := "loop.example/g01922/laws.FnExactIsValidRegistry", spec := "fnExactIsValidRegistry", unfollowed := true, recurses := true, plainKeys := false, apart := false, narrowed := true }
def FnExactIsValidRegistryUptoSaid : Prop := fnExactIsValidRegistryUptoRow.holds Tryz.pinned (OpenSpec.upto fnExactIsValidRegistrySpec)

/-- 'laws.FnExactQueryAutomaton', WHERE WHAT IT READS IS OF BULK AT MOST 1048576: true; the input reads as it did. -/
def fnExactQueryAutomatonUptoRow : OpenClaim := { program := "ytimjccbdngajoaagreat", sum := "3a1a3a6381334330b4ced385219e4f7090479498e8e2204190487ce00eebf8fe", func := "loop.example/g01922/laws.FnExactQueryAutomaton", spec := "fnExactQueryAutomaton", unfollowed := true, recurses := true, plainKeys := false, apart := false, narrowed := true }
def FnExactQueryAutomatonUptoSaid : Prop := fnExactQueryAutomatonUptoRow.holds Tryz.pinned (OpenSpec.upto fnExactQueryAutomatonSpec)

/-- 'laws.FnRegistry', WHERE WHAT IT READS IS OF BULK AT MOST 1048576: true; the input reads as it did. -/
def fnRegistryUptoRow : OpenClaim := { program := "ytimjccbdngajoaagreat", sum := "3a1a3a6381334330b4ced385219e4f7090479498e8e2204190487ce00eebf8fe", func := "loop.example/g01922/laws.FnRegistry", spec := "fnRegistry", inPlace := ["slices.overlaps[loop.example/g01922/impl.Registered]"], unfollowed := true, recurses := true, plainKeys := false, apart := false, narrowed := true }
def FnRegistryUptoSaid : Prop := fnRegistryUptoRow.holds Tryz.pinned (OpenSpec.upto fnRegistrySpec)

/-- 'laws.FnExactUnregisterQuery', WHERE WHAT IT READS IS OF BULK AT MOST 1048576: true; the input reads as it did. -/
def fnExactUnregisterQueryUptoRow : OpenClaim := { program := "ytimjccbdngajoaagreat", sum := "3a1a3a6381334330b4ced385219e4f7090479498e8e2204190487ce00eebf8fe", func := "loop.example/g01922/laws.FnExactUnregisterQuery", spec := "fnExactUnregisterQuery", unfollowed := true, recurses := true, plainKeys := false, apart := false, narrowed := true }
def FnExactUnregisterQueryUptoSaid : Prop := fnExactUnregisterQueryUptoRow.holds Tryz.pinned (OpenSpec.upto fnExactUnregisterQuerySpec)

/-- 'laws.FnExactIncludedQueries', WHERE WHAT IT READS IS OF BULK AT MOST 1048576: true; the input reads as it did. -/
def fnExactIncludedQueriesUptoRow : OpenClaim := { program := "ytimjccbdngajoaagreat", sum := "3a1a3a6381334330b4ced385219e4f7090479498e8e2204190487ce00eebf8fe", func := "loop.example/g01922/laws.FnExactIncludedQueries", spec := "fnExactIncludedQueries", unfollowed := true, recurses := true, plainKeys := false, apart := false, narrowed := true }
def FnExactIncludedQueriesUptoSaid : Prop := fnExactIncludedQueriesUptoRow.holds Tryz.pinned (OpenSpec.upto fnExactIncludedQueriesSpec)

/-- 'laws.FnExactRegisterQuery', WHERE WHAT IT READS IS OF BULK AT MOST 1048576: true; the input reads as it did. -/
def fnExactRegisterQueryUptoRow : OpenClaim := { program := "ytimjccbdngajoaagreat", sum := "3a1a3a6381334330b4ced385219e4f7090479498e8e2204190487ce00eebf8fe", func := "loop.example/g01922/laws.FnExactRegisterQuery", spec := "fnExactRegisterQuery", inPlace := ["slices.overlaps[loop.example/g01922/impl.Registered]"], unfollowed := true, recurses := true, plainKeys := false, apart := false, narrowed := true }
def FnExactRegisterQueryUptoSaid : Prop := fnExactRegisterQueryUptoRow.holds Tryz.pinned (OpenSpec.upto fnExactRegisterQuerySpec)

end Rows
end Go.Proofs.YtimjccbdngajoaaGreat
