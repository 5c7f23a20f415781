/-
  No cell of these rows narrows 'for every input' (looked for: loops, veiled, ifaces, maps, wideKeys, modest, calm, conditions, laid).
  DERIVED. THE GIVEN ROWS OF THIS SEAT. 5 by the template 'for every input the law returns true; each argument reads behind the call as it read before'; 0 by the template 'total and deterministic' (their statements: YtbhafdfiplkacaaGreatTotals.lean).
  GIVEN WITH THE SEED: the statements are not yours to turn. If you find one false, say at which input.
  Laid BY PROGRAM, IN A SANDBOX (cutbox-rows.mjs): the forced cells as the released guide's own fill.sh prints them over the translation 49c929390d294aec… (all of the seat's roots in one cut). By AI agents, Wed Nov 11 2026. No macro, syntax, notation, axiom, sorry.
-/
import Derived.Test.YtbhafdfiplkacaaGreatChecked
import GoSem.Claim
import GoSem.ClaimJoined
import GoSem.ClaimMapViews
import Derived.JoinedTies
import Derived.KernelRfl
namespace Go.Proofs.YtbhafdfiplkacaaGreat
/- THE CELL 'sum', in the pinned program and in every row, IS THE sha256 OF THE DUMP (.gsa) THAT YtbhafdfiplkacaaGreatProg.lean LOADS. Nothing in Lean hashes anything: it is a label: what it is worth is what the hold of that sum in a sandbox is worth. -/
noncomputable def Tryz.pinned : Pinned := { name := "ytbhafdfiplkacaagreat", sum := "49c929390d294aec658252fb9383ae0bbb315442564f4eb982419a9658026696", checked := Tryz.checked }
namespace Rows
def none {H : Type} : Left H := { results := [], args := [] }

/-- 'laws.FnRegistry': WHATEVER THE INPUT: true; the input reads as it did. -/
def fnRegistrySpec : ChangeSpec := { name := "fnRegistry", fn := fun _ => fun
  | [d] => { results := [.lit (.bool true)], args := [d] }
  | _ => none }
def fnRegistryRow : OpenClaim := { program := "ytbhafdfiplkacaagreat", sum := "49c929390d294aec658252fb9383ae0bbb315442564f4eb982419a9658026696", func := "loop.example/g01922/laws.FnRegistry", spec := "fnRegistry", inPlace := ["slices.overlaps[loop.example/g01922/impl.Registered]"], unfollowed := true, recurses := true, plainKeys := false, apart := false }
def FnRegistrySaid : Prop := fnRegistryRow.holds Tryz.pinned (OpenSpec.ofChange fnRegistrySpec)

/-- ITS FALSE NEIGHBOUR: 'it returns false'. Refute it at one input. -/
def fnRegistryWrong : ChangeSpec := { name := "fnRegistry", fn := fun _ => fun
  | [d] => { results := [.lit (.bool false)], args := [d] }
  | _ => none }
def FnRegistryWrongFalsely : Prop := fnRegistryRow.holds Tryz.pinned (OpenSpec.ofChange fnRegistryWrong)

/-- 'laws.FnIncludedQueries': WHATEVER THE INPUT: true; the input reads as it did. -/
def fnIncludedQueriesSpec : ChangeSpec := { name := "fnIncludedQueries", fn := fun _ => fun
  | [d] => { results := [.lit (.bool true)], args := [d] }
  | _ => none }
def fnIncludedQueriesRow : OpenClaim := { program := "ytbhafdfiplkacaagreat", sum := "49c929390d294aec658252fb9383ae0bbb315442564f4eb982419a9658026696", func := "loop.example/g01922/laws.FnIncludedQueries", spec := "fnIncludedQueries", unfollowed := true, recurses := true, plainKeys := false, apart := false }
def FnIncludedQueriesSaid : Prop := fnIncludedQueriesRow.holds Tryz.pinned (OpenSpec.ofChange fnIncludedQueriesSpec)

/-- ITS FALSE NEIGHBOUR: 'it returns false'. Refute it at one input. -/
def fnIncludedQueriesWrong : ChangeSpec := { name := "fnIncludedQueries", fn := fun _ => fun
  | [d] => { results := [.lit (.bool false)], args := [d] }
  | _ => none }
def FnIncludedQueriesWrongFalsely : Prop := fnIncludedQueriesRow.holds Tryz.pinned (OpenSpec.ofChange fnIncludedQueriesWrong)

/-- 'laws.FnDeclarative': WHATEVER THE INPUT: true; the input reads as it did. -/
def fnDeclarativeSpec : ChangeSpec := { name := "fnDeclarative", fn := fun _ => fun
  | [d] => { results := [.lit (.bool true)], args := [d] }
  | _ => none }
def fnDeclarativeRow : OpenClaim := { program := "ytbhafdfiplkacaagreat", sum := "49c929390d294aec658252fb9383ae0bbb315442564f4eb982419a9658026696", func := "loop.example/g01922/laws.FnDeclarative", spec := "fnDeclarative", unfollowed := true, recurses := true, plainKeys := false, apart := false }
def FnDeclarativeSaid : Prop := fnDeclarativeRow.holds Tryz.pinned (OpenSpec.ofChange fnDeclarativeSpec)

/-- ITS FALSE NEIGHBOUR: 'it returns false'. Refute it at one input. -/
def fnDeclarativeWrong : ChangeSpec := { name := "fnDeclarative", fn := fun _ => fun
  | [d] => { results := [.lit (.bool false)], args := [d] }
  | _ => none }
def FnDeclarativeWrongFalsely : Prop := fnDeclarativeRow.holds Tryz.pinned (OpenSpec.ofChange fnDeclarativeWrong)

/-- 'laws.FnAllWitnesses': WHATEVER THE INPUT: true; the input reads as it did. -/
def fnAllWitnessesSpec : ChangeSpec := { name := "fnAllWitnesses", fn := fun _ => fun
  | [d] => { results := [.lit (.bool true)], args := [d] }
  | _ => none }
def fnAllWitnessesRow : OpenClaim := { program := "ytbhafdfiplkacaagreat", sum := "49c929390d294aec658252fb9383ae0bbb315442564f4eb982419a9658026696", func := "loop.example/g01922/laws.FnAllWitnesses", spec := "fnAllWitnesses", unfollowed := true, recurses := true, plainKeys := false, apart := false }
def FnAllWitnessesSaid : Prop := fnAllWitnessesRow.holds Tryz.pinned (OpenSpec.ofChange fnAllWitnessesSpec)

/-- ITS FALSE NEIGHBOUR: 'it returns false'. Refute it at one input. -/
def fnAllWitnessesWrong : ChangeSpec := { name := "fnAllWitnesses", fn := fun _ => fun
  | [d] => { results := [.lit (.bool false)], args := [d] }
  | _ => none }
def FnAllWitnessesWrongFalsely : Prop := fnAllWitnessesRow.holds Tryz.pinned (OpenSpec.ofChange fnAllWitnessesWrong)

/-- 'laws.FnMessageAudit': WHATEVER THE INPUT: true; the input reads as it did. -/
def fnMessageAuditSpec : ChangeSpec := { name := "fnMessageAudit", fn := fun _ => fun
  | [d] => { results := [.lit (.bool true)], args := [d] }
  | _ => none }
def fnMessageAuditRow : OpenClaim := { program := "ytbhafdfiplkacaagreat", sum := "49c929390d294aec658252fb9383ae0bbb315442564f4eb982419a9658026696", func := "loop.example/g01922/laws.FnMessageAudit", spec := "fnMessageAudit", unfollowed := true, recurses := true, plainKeys := false, apart := false }
def FnMessageAuditSaid : Prop := fnMessageAuditRow.holds Tryz.pinned (OpenSpec.ofChange fnMessageAuditSpec)

/-- ITS FALSE NEIGHBOUR: 'it returns false'. Refute it at one input. -/
def fnMessageAuditWrong : ChangeSpec := { name := "fnMessageAudit", fn := fun _ => fun
  | [d] => { results := [.lit (.bool false)], args := [d] }
  | _ => none }
def FnMessageAuditWrongFalsely : Prop := fnMessageAuditRow.holds Tryz.pinned (OpenSpec.ofChange fnMessageAuditWrong)

/- THE SECOND FORM. 'bulk': how many values and letters a reading holds, each counted each time it is reached (what is shared counts as often as it is met; a slice's spare places count too). A statement '..UptoSaid' is the law's where the arguments, and the package variables that the reading takes, are together of bulk at most 1048576: NARROWER than '..Said'. Prove '..Said' where nothing that the law and all that it calls make is longer than what came in: it says more and counts as full. Else prove '..UptoSaid'. A law counts once. -/
mutual
def uptoBulk {H : Type} : DataW H → Nat
  | .lit (.string bytes) => bytes.length + 1
  | .lit _ => 1
  | .nil => 1
  | .ptr d => uptoBulk d + 1
  | .slice elems spare => uptoBulkAll elems + uptoBulkAll spare + 1
  | .agg parts => uptoBulkAll parts + 1
  | .iface _ d => uptoBulk d + 1
  | .map entries => uptoBulkEntries entries + 1
  | .held _ => 1
def uptoBulkAll {H : Type} : List (DataW H) → Nat
  | [] => 0
  | d :: r => uptoBulk d + uptoBulkAll r
def uptoBulkEntries {H : Type} : List (Lit × DataW H) → Nat
  | [] => 0
  | x :: r => uptoBulkEntry x + uptoBulkEntries r
def uptoBulkEntry {H : Type} : Lit × DataW H → Nat
  | (.string bytes, d) => bytes.length + uptoBulk d + 1
  | (_, d) => uptoBulk d + 1
 end
def uptoSmall : (H : Type) → List (DataW H) → Bool := fun _ ds => decide (uptoBulkAll ds ≤ 1048576)
def OpenSpec.upto (s : _root_.Go.ChangeSpec) : _root_.Go.OpenSpec := { _root_.Go.OpenSpec.ofChange s with cond := some uptoSmall }

/-- 'laws.FnRegistry', WHERE WHAT IT READS IS OF BULK AT MOST 1048576: true; the input reads as it did. -/
def fnRegistryUptoRow : OpenClaim := { program := "ytbhafdfiplkacaagreat", sum := "49c929390d294aec658252fb9383ae0bbb315442564f4eb982419a9658026696", func := "loop.example/g01922/laws.FnRegistry", spec := "fnRegistry", inPlace := ["slices.overlaps[loop.example/g01922/impl.Registered]"], unfollowed := true, recurses := true, plainKeys := false, apart := false, narrowed := true }
def FnRegistryUptoSaid : Prop := fnRegistryUptoRow.holds Tryz.pinned (OpenSpec.upto fnRegistrySpec)

/-- 'laws.FnIncludedQueries', WHERE WHAT IT READS IS OF BULK AT MOST 1048576: true; the input reads as it did. -/
def fnIncludedQueriesUptoRow : OpenClaim := { program := "ytbhafdfiplkacaagreat", sum := "49c929390d294aec658252fb9383ae0bbb315442564f4eb982419a9658026696", func := "loop.example/g01922/laws.FnIncludedQueries", spec := "fnIncludedQueries", unfollowed := true, recurses := true, plainKeys := false, apart := false, narrowed := true }
def FnIncludedQueriesUptoSaid : Prop := fnIncludedQueriesUptoRow.holds Tryz.pinned (OpenSpec.upto fnIncludedQueriesSpec)

/-- 'laws.FnDeclarative', WHERE WHAT IT READS IS OF BULK AT MOST 1048576: true; the input reads as it did. -/
def fnDeclarativeUptoRow : OpenClaim := { program := "ytbhafdfiplkacaagreat", sum := "49c929390d294aec658252fb9383ae0bbb315442564f4eb982419a9658026696", func := "loop.example/g01922/laws.FnDeclarative", spec := "fnDeclarative", unfollowed := true, recurses := true, plainKeys := false, apart := false, narrowed := true }
def FnDeclarativeUptoSaid : Prop := fnDeclarativeUptoRow.holds Tryz.pinned (OpenSpec.upto fnDeclarativeSpec)

/-- 'laws.FnAllWitnesses', WHERE WHAT IT READS IS OF BULK AT MOST 1048576: true; the input reads as it did. -/
def fnAllWitnessesUptoRow : OpenClaim := { program := "ytbhafdfiplkacaagreat", sum := "49c929390d294aec658252fb9383ae0bbb315442564f4eb982419a9658026696", func := "loop.example/g01922/laws.FnAllWitnesses", spec := "fnAllWitnesses", unfollowed := true, recurses := true, plainKeys := false, apart := false, narrowed := true }
def FnAllWitnessesUptoSaid : Prop := fnAllWitnessesUptoRow.holds Tryz.pinned (OpenSpec.upto fnAllWitnessesSpec)

/-- 'laws.FnMessageAudit', WHERE WHAT IT READS IS OF BULK AT MOST 1048576: true; the input reads as it did. -/
def fnMessageAuditUptoRow : OpenClaim := { program := "ytbhafdfiplkacaagreat", sum := "49c929390d294aec658252fb9383ae0bbb315442564f4eb982419a9658026696", func := "loop.example/g01922/laws.FnMessageAudit", spec := "fnMessageAudit", unfollowed := true, recurses := true, plainKeys := false, apart := false, narrowed := true }
def FnMessageAuditUptoSaid : Prop := fnMessageAuditUptoRow.holds Tryz.pinned (OpenSpec.upto fnMessageAuditSpec)

end Rows
end Go.Proofs.YtbhafdfiplkacaaGreat
