/-
  No cell of these rows narrows 'for every input' (looked for: loops, veiled, ifaces, maps, wideKeys, modest, calm, conditions, laid).
  DERIVED. THE GIVEN ROWS OF THIS SEAT. 5 by the template 'for every input the law returns true; each argument reads behind the call as it read before'; 0 by the template 'total and deterministic' (their statements: YtcmpdlhbliolaaaGreatTotals.lean).
  GIVEN WITH THE SEED: the statements are not yours to turn. If you find one false, say at which input.
  Laid BY PROGRAM, IN A SANDBOX (cutbox-rows.mjs): the forced cells as the released guide's own fill.sh prints them over the translation 6e4ebface4f2ca2d… (all of the seat's roots in one cut). By AI agents, Wed Nov 11 2026. No macro, syntax, notation, axiom, sorry.
-/
import Derived.Test.YtcmpdlhbliolaaaGreatChecked
import GoSem.Claim
import GoSem.ClaimJoined
import GoSem.ClaimMapViews
import Derived.JoinedTies
import Derived.KernelRfl
namespace Go.Proofs.YtcmpdlhbliolaaaGreat
/- THE CELL 'sum', in the pinned program and in every row, IS THE sha256 OF THE DUMP (.gsa) THAT YtcmpdlhbliolaaaGreatProg.lean LOADS. Nothing in Lean hashes anything: it is a label: what it is worth is what the hold of that sum in a sandbox is worth. -/
noncomputable def Tryz.pinned : Pinned := { name := "ytcmpdlhbliolaaagreat", sum := "6e4ebface4f2ca2df97214d3189cc2ec9e40a32b561109e7e30451557e7e97b4", checked := Tryz.checked }
namespace Rows
def none {H : Type} : Left H := { results := [], args := [] }

/-- 'laws.FnExactHardPair': WHATEVER THE INPUT: true; the input reads as it did. -/
def fnExactHardPairSpec : ChangeSpec := { name := "fnExactHardPair", fn := fun _ => fun
  | [d] => { results := [.lit (.bool true)], args := [d] }
  | _ => none }
def fnExactHardPairRow : OpenClaim := { program := "ytcmpdlhbliolaaagreat", sum := "6e4ebface4f2ca2df97214d3189cc2ec9e40a32b561109e7e30451557e7e97b4", func := "loop.example/g01922/laws.FnExactHardPair", spec := "fnExactHardPair", unfollowed := true, recurses := true, plainKeys := false, apart := false }
def FnExactHardPairSaid : Prop := fnExactHardPairRow.holds Tryz.pinned (OpenSpec.ofChange fnExactHardPairSpec)

/-- ITS FALSE NEIGHBOUR: 'it returns false'. Refute it at one input. -/
def fnExactHardPairWrong : ChangeSpec := { name := "fnExactHardPair", fn := fun _ => fun
  | [d] => { results := [.lit (.bool false)], args := [d] }
  | _ => none }
def FnExactHardPairWrongFalsely : Prop := fnExactHardPairRow.holds Tryz.pinned (OpenSpec.ofChange fnExactHardPairWrong)

/-- 'laws.FnExactTractabilityClass': WHATEVER THE INPUT: true; the input reads as it did. -/
def fnExactTractabilityClassSpec : ChangeSpec := { name := "fnExactTractabilityClass", fn := fun _ => fun
  | [d] => { results := [.lit (.bool true)], args := [d] }
  | _ => none }
def fnExactTractabilityClassRow : OpenClaim := { program := "ytcmpdlhbliolaaagreat", sum := "6e4ebface4f2ca2df97214d3189cc2ec9e40a32b561109e7e30451557e7e97b4", func := "loop.example/g01922/laws.FnExactTractabilityClass", spec := "fnExactTractabilityClass", unfollowed := true, recurses := true, plainKeys := false, apart := false }
def FnExactTractabilityClassSaid : Prop := fnExactTractabilityClassRow.holds Tryz.pinned (OpenSpec.ofChange fnExactTractabilityClassSpec)

/-- ITS FALSE NEIGHBOUR: 'it returns false'. Refute it at one input. -/
def fnExactTractabilityClassWrong : ChangeSpec := { name := "fnExactTractabilityClass", fn := fun _ => fun
  | [d] => { results := [.lit (.bool false)], args := [d] }
  | _ => none }
def FnExactTractabilityClassWrongFalsely : Prop := fnExactTractabilityClassRow.holds Tryz.pinned (OpenSpec.ofChange fnExactTractabilityClassWrong)

/-- 'laws.FnExactIncludedQueries': WHATEVER THE INPUT: true; the input reads as it did. -/
def fnExactIncludedQueriesSpec : ChangeSpec := { name := "fnExactIncludedQueries", fn := fun _ => fun
  | [d1, d2] => { results := [.lit (.bool true)], args := [d1, d2] }
  | _ => none }
def fnExactIncludedQueriesRow : OpenClaim := { program := "ytcmpdlhbliolaaagreat", sum := "6e4ebface4f2ca2df97214d3189cc2ec9e40a32b561109e7e30451557e7e97b4", func := "loop.example/g01922/laws.FnExactIncludedQueries", spec := "fnExactIncludedQueries", unfollowed := true, recurses := true, plainKeys := false, apart := false }
def FnExactIncludedQueriesSaid : Prop := fnExactIncludedQueriesRow.holds Tryz.pinned (OpenSpec.ofChange fnExactIncludedQueriesSpec)

/-- ITS FALSE NEIGHBOUR: 'it returns false'. Refute it at one input. -/
def fnExactIncludedQueriesWrong : ChangeSpec := { name := "fnExactIncludedQueries", fn := fun _ => fun
  | [d1, d2] => { results := [.lit (.bool false)], args := [d1, d2] }
  | _ => none }
def FnExactIncludedQueriesWrongFalsely : Prop := fnExactIncludedQueriesRow.holds Tryz.pinned (OpenSpec.ofChange fnExactIncludedQueriesWrong)

/-- 'laws.FnExactCompareExprs': WHATEVER THE INPUT: true; the input reads as it did. -/
def fnExactCompareExprsSpec : ChangeSpec := { name := "fnExactCompareExprs", fn := fun _ => fun
  | [d1, d2, d3] => { results := [.lit (.bool true)], args := [d1, d2, d3] }
  | _ => none }
def fnExactCompareExprsRow : OpenClaim := { program := "ytcmpdlhbliolaaagreat", sum := "6e4ebface4f2ca2df97214d3189cc2ec9e40a32b561109e7e30451557e7e97b4", func := "loop.example/g01922/laws.FnExactCompareExprs", spec := "fnExactCompareExprs", unfollowed := true, recurses := true, plainKeys := false, apart := false }
def FnExactCompareExprsSaid : Prop := fnExactCompareExprsRow.holds Tryz.pinned (OpenSpec.ofChange fnExactCompareExprsSpec)

/-- ITS FALSE NEIGHBOUR: 'it returns false'. Refute it at one input. -/
def fnExactCompareExprsWrong : ChangeSpec := { name := "fnExactCompareExprs", fn := fun _ => fun
  | [d1, d2, d3] => { results := [.lit (.bool false)], args := [d1, d2, d3] }
  | _ => none }
def FnExactCompareExprsWrongFalsely : Prop := fnExactCompareExprsRow.holds Tryz.pinned (OpenSpec.ofChange fnExactCompareExprsWrong)

/-- 'laws.FnExactAuditAnswers': WHATEVER THE INPUT: true; the input reads as it did. -/
def fnExactAuditAnswersSpec : ChangeSpec := { name := "fnExactAuditAnswers", fn := fun _ => fun
  | [d1, d2, d3, d4] => { results := [.lit (.bool true)], args := [d1, d2, d3, d4] }
  | _ => none }
def fnExactAuditAnswersRow : OpenClaim := { program := "ytcmpdlhbliolaaagreat", sum := "6e4ebface4f2ca2df97214d3189cc2ec9e40a32b561109e7e30451557e7e97b4", func := "loop.example/g01922/laws.FnExactAuditAnswers", spec := "fnExactAuditAnswers", unfollowed := true, recurses := true, plainKeys := false, apart := false }
def FnExactAuditAnswersSaid : Prop := fnExactAuditAnswersRow.holds Tryz.pinned (OpenSpec.ofChange fnExactAuditAnswersSpec)

/-- ITS FALSE NEIGHBOUR: 'it returns false'. Refute it at one input. -/
def fnExactAuditAnswersWrong : ChangeSpec := { name := "fnExactAuditAnswers", fn := fun _ => fun
  | [d1, d2, d3, d4] => { results := [.lit (.bool false)], args := [d1, d2, d3, d4] }
  | _ => none }
def FnExactAuditAnswersWrongFalsely : Prop := fnExactAuditAnswersRow.holds Tryz.pinned (OpenSpec.ofChange fnExactAuditAnswersWrong)

/- THE SECOND FORM. 'bulk': how many values and letters a reading holds, each counted each time it is reached (what is shared counts as often as it is met; a slice's spare places count too). A statement '..UptoSaid' is the law's where the arguments, and the package variables that the reading takes, are together of bulk at most 1048576: NARROWER than '..Said'. Prove '..Said' where nothing that the law and all that it calls make is longer than what came in: it says more and counts as full. Else prove '..UptoSaid'. A law counts once. -/
mutual
def uptoBulk {H : Type} : DataW H → Nat
  | .lit (.string bytes) => bytes.length + 1
  | .lit _ => 1
  | .nil => 1
  | .ptr d => uptoBulk d + 1
  | .slice elems spare => uptoBulkAll elems + uptoBulkAll spare + 1
  | .agg parts => uptoBulkAll parts + 1
  | .iface _ d => uptoBulk d + 1
  | .map entries => uptoBulkEntries entries + 1
  | .held _ => 1
def uptoBulkAll {H : Type} : List (DataW H) → Nat
  | [] => 0
  | d :: r => uptoBulk d + uptoBulkAll r
def uptoBulkEntries {H : Type} : List (Lit × DataW H) → Nat
  | [] => 0
  | x :: r => uptoBulkEntry x + uptoBulkEntries r
def uptoBulkEntry {H : Type} : Lit × DataW H → Nat
  | (.string bytes, d) => bytes.length + uptoBulk d + 1
  | (_, d) => uptoBulk d + 1
 end
def uptoSmall : (H : Type) → List (DataW H) → Bool := fun _ ds => decide (uptoBulkAll ds ≤ 1048576)
def OpenSpec.upto (s : _root_.Go.ChangeSpec) : _root_.Go.OpenSpec := { _root_.Go.OpenSpec.ofChange s with cond := some uptoSmall }

/-- 'laws.FnExactHardPair', WHERE WHAT IT READS IS OF BULK AT MOST 1048576: true; the input reads as it did. -/
def fnExactHardPairUptoRow : OpenClaim := { program := "ytcmpdlhbliolaaagreat", sum := "6e4ebface4f2ca2df97214d3189cc2ec9e40a32b561109e7e30451557e7e97b4", func := "loop.example/g01922/laws.FnExactHardPair", spec := "fnExactHardPair", unfollowed := true, recurses := true, plainKeys := false, apart := false, narrowed := true }
def FnExactHardPairUptoSaid : Prop := fnExactHardPairUptoRow.holds Tryz.pinned (OpenSpec.upto fnExactHardPairSpec)

/-- 'laws.FnExactTractabilityClass', WHERE WHAT IT READS IS OF BULK AT MOST 1048576: true; the input reads as it did. -/
def fnExactTractabilityClassUptoRow : OpenClaim := { program := "ytcmpdlhbliolaaagreat", sum := "6e4ebface4f2ca2df97214d3189cc2ec9e40a32b561109e7e30451557e7e97b4", func := "loop.example/g01922/laws.FnExactTractabilityClass", spec := "fnExactTractabilityClass", unfollowed := true, recurses := true, plainKeys := false, apart := false, narrowed := true }
def FnExactTractabilityClassUptoSaid : Prop := fnExactTractabilityClassUptoRow.holds Tryz.pinned (OpenSpec.upto fnExactTractabilityClassSpec)

/-- 'laws.FnExactIncludedQueries', WHERE WHAT IT READS IS OF BULK AT MOST 1048576: true; the input reads as it did. -/
def fnExactIncludedQueriesUptoRow : OpenClaim := { program := "ytcmpdlhbliolaaagreat", sum := "6e4ebface4f2ca2df97214d3189cc2ec9e40a32b561109e7e30451557e7e97b4", func := "loop.example/g01922/laws.FnExactIncludedQueries", spec := "fnExactIncludedQueries", unfollowed := true, recurses := true, plainKeys := false, apart := false, narrowed := true }
def FnExactIncludedQueriesUptoSaid : Prop := fnExactIncludedQueriesUptoRow.holds Tryz.pinned (OpenSpec.upto fnExactIncludedQueriesSpec)

/-- 'laws.FnExactCompareExprs', WHERE WHAT IT READS IS OF BULK AT MOST 1048576: true; the input reads as it did. -/
def fnExactCompareExprsUptoRow : OpenClaim := { program := "ytcmpdlhbliolaaagreat", sum := "6e4ebface4f2ca2df97214d3189cc2ec9e40a32b561109e7e30451557e7e97b4", func := "loop.example/g01922/laws.FnExactCompareExprs", spec := "fnExactCompareExprs", unfollowed := true, recurses := true, plainKeys := false, apart := false, narrowed := true }
def FnExactCompareExprsUptoSaid : Prop := fnExactCompareExprsUptoRow.holds Tryz.pinned (OpenSpec.upto fnExactCompareExprsSpec)

/-- 'laws.FnExactAuditAnswers', WHERE WHAT IT READS IS OF BULK AT MOST 1048576: true; the input reads as it did. -/
def fnExactAuditAnswersUptoRow : OpenClaim := { program := "ytcmpdlhbliolaaagreat", sum := "6e4ebface4f2ca2df97214d3189cc2ec9e40a32b561109e7e30451557e7e97b4", func := "loop.example/g01922/laws.FnExactAuditAnswers", spec := "fnExactAuditAnswers", unfollowed := true, recurses := true, plainKeys := false, apart := false, narrowed := true }
def FnExactAuditAnswersUptoSaid : Prop := fnExactAuditAnswersUptoRow.holds Tryz.pinned (OpenSpec.upto fnExactAuditAnswersSpec)

end Rows
end Go.Proofs.YtcmpdlhbliolaaaGreat
