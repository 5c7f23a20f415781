/-
  No cell of these rows narrows 'for every input' (looked for: loops, veiled, ifaces, maps, wideKeys, modest, calm, conditions, laid).
  DERIVED. THE GIVEN ROWS OF THIS SEAT. 3 by the template 'for every input the law returns true; each argument reads behind the call as it read before'; 0 by the template 'total and deterministic' (their statements: YtokiommgielfjaaTotals.lean).
  GIVEN WITH THE SEED: the statements are not yours to turn. If you find one false, say at which input.
  Laid BY PROGRAM, IN A SANDBOX (cutbox-rows.mjs): the forced cells as the released guide's own fill.sh prints them over the translation 2605622ba1cc83e1… (all of the seat's roots in one cut). By AI agents, Wed Nov 11 2026. No macro, syntax, notation, axiom, sorry.
-/
import Derived.Test.YtokiommgielfjaaChecked
import GoSem.Claim
import GoSem.ClaimJoined
import GoSem.ClaimMapViews
import Derived.JoinedTies
import Derived.KernelRfl
namespace Go.Proofs.Ytokiommgielfjaa
/- THE CELL 'sum', in the pinned program and in every row, IS THE sha256 OF THE DUMP (.gsa) THAT YtokiommgielfjaaProg.lean LOADS. Nothing in Lean hashes anything: it is a label: what it is worth is what the hold of that sum in a sandbox is worth. -/
noncomputable def Try.pinned : Pinned := { name := "ytokiommgielfjaa", sum := "2605622ba1cc83e1eda9d64f0f6e24dbebdbdb3301360ccc2ab7c35bb1d44e9f", checked := Try.checked }
namespace Rows
def none {H : Type} : Left H := { results := [], args := [] }

/-- 'laws.FnExactAuditName': WHATEVER THE INPUT: true; the input reads as it did. -/
def fnExactAuditNameSpec : ChangeSpec := { name := "fnExactAuditName", fn := fun _ => fun
  | [d] => { results := [.lit (.bool true)], args := [d] }
  | _ => none }
def fnExactAuditNameRow : OpenClaim := { program := "ytokiommgielfjaa", sum := "2605622ba1cc83e1eda9d64f0f6e24dbebdbdb3301360ccc2ab7c35bb1d44e9f", func := "loop.example/g01922/laws.FnExactAuditName", spec := "fnExactAuditName", apart := false }
def FnExactAuditNameSaid : Prop := fnExactAuditNameRow.holds Try.pinned (OpenSpec.ofChange fnExactAuditNameSpec)

/-- ITS FALSE NEIGHBOUR: 'it returns false'. Refute it at one input. -/
def fnExactAuditNameWrong : ChangeSpec := { name := "fnExactAuditName", fn := fun _ => fun
  | [d] => { results := [.lit (.bool false)], args := [d] }
  | _ => none }
def FnExactAuditNameWrongFalsely : Prop := fnExactAuditNameRow.holds Try.pinned (OpenSpec.ofChange fnExactAuditNameWrong)

/-- 'laws.FnExactEqualMessages': WHATEVER THE INPUT: true; the input reads as it did. -/
def fnExactEqualMessagesSpec : ChangeSpec := { name := "fnExactEqualMessages", fn := fun _ => fun
  | [d1, d2] => { results := [.lit (.bool true)], args := [d1, d2] }
  | _ => none }
def fnExactEqualMessagesRow : OpenClaim := { program := "ytokiommgielfjaa", sum := "2605622ba1cc83e1eda9d64f0f6e24dbebdbdb3301360ccc2ab7c35bb1d44e9f", func := "loop.example/g01922/laws.FnExactEqualMessages", spec := "fnExactEqualMessages", apart := false }
def FnExactEqualMessagesSaid : Prop := fnExactEqualMessagesRow.holds Try.pinned (OpenSpec.ofChange fnExactEqualMessagesSpec)

/-- ITS FALSE NEIGHBOUR: 'it returns false'. Refute it at one input. -/
def fnExactEqualMessagesWrong : ChangeSpec := { name := "fnExactEqualMessages", fn := fun _ => fun
  | [d1, d2] => { results := [.lit (.bool false)], args := [d1, d2] }
  | _ => none }
def FnExactEqualMessagesWrongFalsely : Prop := fnExactEqualMessagesRow.holds Try.pinned (OpenSpec.ofChange fnExactEqualMessagesWrong)

/-- 'laws.FnExactDeterminize': WHATEVER THE INPUT: true; the input reads as it did. -/
def fnExactDeterminizeSpec : ChangeSpec := { name := "fnExactDeterminize", fn := fun _ => fun
  | [d] => { results := [.lit (.bool true)], args := [d] }
  | _ => none }
def fnExactDeterminizeRow : OpenClaim := { program := "ytokiommgielfjaa", sum := "2605622ba1cc83e1eda9d64f0f6e24dbebdbdb3301360ccc2ab7c35bb1d44e9f", func := "loop.example/g01922/laws.FnExactDeterminize", spec := "fnExactDeterminize", unfollowed := true, recurses := true, apart := false }
def FnExactDeterminizeSaid : Prop := fnExactDeterminizeRow.holds Try.pinned (OpenSpec.ofChange fnExactDeterminizeSpec)

/-- ITS FALSE NEIGHBOUR: 'it returns false'. Refute it at one input. -/
def fnExactDeterminizeWrong : ChangeSpec := { name := "fnExactDeterminize", fn := fun _ => fun
  | [d] => { results := [.lit (.bool false)], args := [d] }
  | _ => none }
def FnExactDeterminizeWrongFalsely : Prop := fnExactDeterminizeRow.holds Try.pinned (OpenSpec.ofChange fnExactDeterminizeWrong)

/- THE SECOND FORM. 'bulk': how many values and letters a reading holds, each counted each time it is reached (what is shared counts as often as it is met; a slice's spare places count too). A statement '..UptoSaid' is the law's where the arguments, and the package variables that the reading takes, are together of bulk at most 1048576: NARROWER than '..Said'. Prove '..Said' where nothing that the law and all that it calls make is longer than what came in: it says more and counts as full. Else prove '..UptoSaid'. A law counts once. -/
mutual
def uptoBulk {H : Type} : DataW H → Nat
  | .lit (.string bytes) => bytes.length + 1
  | .lit _ => 1
  | .nil => 1
  | .ptr d => uptoBulk d + 1
  | .slice elems spare => uptoBulkAll elems + uptoBulkAll spare + 1
  | .agg parts => uptoBulkAll parts + 1
  | .iface _ d => uptoBulk d + 1
  | .map entries => uptoBulkEntries entries + 1
  | .held _ => 1
def uptoBulkAll {H : Type} : List (DataW H) → Nat
  | [] => 0
  | d :: r => uptoBulk d + uptoBulkAll r
def uptoBulkEntries {H : Type} : List (Lit × DataW H) → Nat
  | [] => 0
  | x :: r => uptoBulkEntry x + uptoBulkEntries r
def uptoBulkEntry {H : Type} : Lit × DataW H → Nat
  | (.string bytes, d) => bytes.length + uptoBulk d + 1
  | (_, d) => uptoBulk d + 1
 end
def uptoSmall : (H : Type) → List (DataW H) → Bool := fun _ ds => decide (uptoBulkAll ds ≤ 1048576)
def OpenSpec.upto (s : _root_.Go.ChangeSpec) : _root_.Go.OpenSpec := { _root_.Go.OpenSpec.ofChange s with cond := some uptoSmall }

/-- 'laws.FnExactAuditName', WHERE WHAT IT READS IS OF BULK AT MOST 1048576: true; the input reads as it did. -/
def fnExactAuditNameUptoRow : OpenClaim := { program := "ytokiommgielfjaa", sum := "2605622ba1cc83e1eda9d64f0f6e24dbebdbdb3301360ccc2ab7c35bb1d44e9f", func := "loop.example/g01922/laws.FnExactAuditName", spec := "fnExactAuditName", apart := false, narrowed := true }
def FnExactAuditNameUptoSaid : Prop := fnExactAuditNameUptoRow.holds Try.pinned (OpenSpec.upto fnExactAuditNameSpec)

/-- 'laws.FnExactEqualMessages', WHERE WHAT IT READS IS OF BULK AT MOST 1048576: true; the input reads as it did. -/
def fnExactEqualMessagesUptoRow : OpenClaim := { program := "ytokiommgielfjaa", sum := "2605622ba1cc83e1eda9d64f0f6e24dbebdbdb3301360ccc2ab7c35bb1d44e9f", func := "loop.example/g01922/laws.FnExactEqualMessages", spec := "fnExactEqualMessages", apart := false, narrowed := true }
def FnExactEqualMessagesUptoSaid : Prop := fnExactEqualMessagesUptoRow.holds Try.pinned (OpenSpec.upto fnExactEqualMessagesSpec)

/-- 'laws.FnExactDeterminize', WHERE WHAT IT READS IS OF BULK AT MOST 1048576: true; the input reads as it did. -/
def fnExactDeterminizeUptoRow : OpenClaim := { program := "ytokiommgielfjaa", sum := "2605622ba1cc83e1eda9d64f0f6e24dbebdbdb3301360ccc2ab7c35bb1d44e9f", func := "loop.example/g01922/laws.FnExactDeterminize", spec := "fnExactDeterminize", unfollowed := true, recurses := true, apart := false, narrowed := true }
def FnExactDeterminizeUptoSaid : Prop := fnExactDeterminizeUptoRow.holds Try.pinned (OpenSpec.upto fnExactDeterminizeSpec)

end Rows
end Go.Proofs.Ytokiommgielfjaa
