/-
  No cell of these rows narrows 'for every input' (looked for: loops, veiled, ifaces, maps, wideKeys, modest, calm, conditions, laid).
  DERIVED. THE GIVEN ROWS OF THIS SEAT. 5 by the template 'for every input the law returns true; each argument reads behind the call as it read before'; 0 by the template 'total and deterministic' (their statements: YtakjhbbbjbebdaaGreatTotals.lean).
  GIVEN WITH THE SEED: the statements are not yours to turn. If you find one false, say at which input.
  Laid BY PROGRAM, IN A SANDBOX (cutbox-rows.mjs): the forced cells as the released guide's own fill.sh prints them over the translation 7891eeeb84236b57… (all of the seat's roots in one cut). By AI agents, Wed Nov 11 2026. No macro, syntax, notation, axiom, sorry.
-/
import Derived.Test.YtakjhbbbjbebdaaGreatChecked
import GoSem.Claim
import GoSem.ClaimJoined
import GoSem.ClaimMapViews
import Derived.JoinedTies
import Derived.KernelRfl
namespace Go.Proofs.YtakjhbbbjbebdaaGreat
/- THE CELL 'sum', in the pinned program and in every row, IS THE sha256 OF THE DUMP (.gsa) THAT YtakjhbbbjbebdaaGreatProg.lean LOADS. Nothing in Lean hashes anything: it is a label: what it is worth is what the hold of that sum in a sandbox is worth. -/
noncomputable def Tryz.pinned : Pinned := { name := "ytakjhbbbjbebdaagreat", sum := "7891eeeb84236b57988d77719d09a2ae3e78070515535cdf4cf9cde6137cec06", checked := Tryz.checked }
namespace Rows
def none {H : Type} : Left H := { results := [], args := [] }

/-- 'laws.FnExactQueryAnswers': WHATEVER THE INPUT: true; the input reads as it did. -/
def fnExactQueryAnswersSpec : ChangeSpec := { name := "fnExactQueryAnswers", fn := fun _ => fun
  | [d1, d2, d3] => { results := [.lit (.bool true)], args := [d1, d2, d3] }
  | _ => none }
def fnExactQueryAnswersRow : OpenClaim := { program := "ytakjhbbbjbebdaagreat", sum := "7891eeeb84236b57988d77719d09a2ae3e78070515535cdf4cf9cde6137cec06", func := "loop.example/g01922/laws.FnExactQueryAnswers", spec := "fnExactQueryAnswers", unfollowed := true, recurses := true, apart := false }
def FnExactQueryAnswersSaid : Prop := fnExactQueryAnswersRow.holds Tryz.pinned (OpenSpec.ofChange fnExactQueryAnswersSpec)

/-- ITS FALSE NEIGHBOUR: 'it returns false'. Refute it at one input. -/
def fnExactQueryAnswersWrong : ChangeSpec := { name := "fnExactQueryAnswers", fn := fun _ => fun
  | [d1, d2, d3] => { results := [.lit (.bool false)], args := [d1, d2, d3] }
  | _ => none }
def FnExactQueryAnswersWrongFalsely : Prop := fnExactQueryAnswersRow.holds Tryz.pinned (OpenSpec.ofChange fnExactQueryAnswersWrong)

/-- 'laws.FnExactNextMessage': WHATEVER THE INPUT: true; the input reads as it did. -/
def fnExactNextMessageSpec : ChangeSpec := { name := "fnExactNextMessage", fn := fun _ => fun
  | [d1, d2, d3] => { results := [.lit (.bool true)], args := [d1, d2, d3] }
  | _ => none }
def fnExactNextMessageRow : OpenClaim := { program := "ytakjhbbbjbebdaagreat", sum := "7891eeeb84236b57988d77719d09a2ae3e78070515535cdf4cf9cde6137cec06", func := "loop.example/g01922/laws.FnExactNextMessage", spec := "fnExactNextMessage", unfollowed := true, recurses := true, apart := false }
def FnExactNextMessageSaid : Prop := fnExactNextMessageRow.holds Tryz.pinned (OpenSpec.ofChange fnExactNextMessageSpec)

/-- ITS FALSE NEIGHBOUR: 'it returns false'. Refute it at one input. -/
def fnExactNextMessageWrong : ChangeSpec := { name := "fnExactNextMessage", fn := fun _ => fun
  | [d1, d2, d3] => { results := [.lit (.bool false)], args := [d1, d2, d3] }
  | _ => none }
def FnExactNextMessageWrongFalsely : Prop := fnExactNextMessageRow.holds Tryz.pinned (OpenSpec.ofChange fnExactNextMessageWrong)

/-- 'laws.FnExactSkipMessage': WHATEVER THE INPUT: true; the input reads as it did. -/
def fnExactSkipMessageSpec : ChangeSpec := { name := "fnExactSkipMessage", fn := fun _ => fun
  | [d1, d2, d3] => { results := [.lit (.bool true)], args := [d1, d2, d3] }
  | _ => none }
def fnExactSkipMessageRow : OpenClaim := { program := "ytakjhbbbjbebdaagreat", sum := "7891eeeb84236b57988d77719d09a2ae3e78070515535cdf4cf9cde6137cec06", func := "loop.example/g01922/laws.FnExactSkipMessage", spec := "fnExactSkipMessage", unfollowed := true, recurses := true, apart := false }
def FnExactSkipMessageSaid : Prop := fnExactSkipMessageRow.holds Tryz.pinned (OpenSpec.ofChange fnExactSkipMessageSpec)

/-- ITS FALSE NEIGHBOUR: 'it returns false'. Refute it at one input. -/
def fnExactSkipMessageWrong : ChangeSpec := { name := "fnExactSkipMessage", fn := fun _ => fun
  | [d1, d2, d3] => { results := [.lit (.bool false)], args := [d1, d2, d3] }
  | _ => none }
def FnExactSkipMessageWrongFalsely : Prop := fnExactSkipMessageRow.holds Tryz.pinned (OpenSpec.ofChange fnExactSkipMessageWrong)

/-- 'laws.FnExactAuditMessages': WHATEVER THE INPUT: true; the input reads as it did. -/
def fnExactAuditMessagesSpec : ChangeSpec := { name := "fnExactAuditMessages", fn := fun _ => fun
  | [d1, d2, d3, d4, d5] => { results := [.lit (.bool true)], args := [d1, d2, d3, d4, d5] }
  | _ => none }
def fnExactAuditMessagesRow : OpenClaim := { program := "ytakjhbbbjbebdaagreat", sum := "7891eeeb84236b57988d77719d09a2ae3e78070515535cdf4cf9cde6137cec06", func := "loop.example/g01922/laws.FnExactAuditMessages", spec := "fnExactAuditMessages", unfollowed := true, recurses := true, apart := false }
def FnExactAuditMessagesSaid : Prop := fnExactAuditMessagesRow.holds Tryz.pinned (OpenSpec.ofChange fnExactAuditMessagesSpec)

/-- ITS FALSE NEIGHBOUR: 'it returns false'. Refute it at one input. -/
def fnExactAuditMessagesWrong : ChangeSpec := { name := "fnExactAuditMessages", fn := fun _ => fun
  | [d1, d2, d3, d4, d5] => { results := [.lit (.bool false)], args := [d1, d2, d3, d4, d5] }
  | _ => none }
def FnExactAuditMessagesWrongFalsely : Prop := fnExactAuditMessagesRow.holds Tryz.pinned (OpenSpec.ofChange fnExactAuditMessagesWrong)

/-- 'laws.FnExactDrainMessages': WHATEVER THE INPUT: true; the input reads as it did. -/
def fnExactDrainMessagesSpec : ChangeSpec := { name := "fnExactDrainMessages", fn := fun _ => fun
  | [d1, d2, d3] => { results := [.lit (.bool true)], args := [d1, d2, d3] }
  | _ => none }
def fnExactDrainMessagesRow : OpenClaim := { program := "ytakjhbbbjbebdaagreat", sum := "7891eeeb84236b57988d77719d09a2ae3e78070515535cdf4cf9cde6137cec06", func := "loop.example/g01922/laws.FnExactDrainMessages", spec := "fnExactDrainMessages", unfollowed := true, recurses := true, apart := false }
def FnExactDrainMessagesSaid : Prop := fnExactDrainMessagesRow.holds Tryz.pinned (OpenSpec.ofChange fnExactDrainMessagesSpec)

/-- ITS FALSE NEIGHBOUR: 'it returns false'. Refute it at one input. -/
def fnExactDrainMessagesWrong : ChangeSpec := { name := "fnExactDrainMessages", fn := fun _ => fun
  | [d1, d2, d3] => { results := [.lit (.bool false)], args := [d1, d2, d3] }
  | _ => none }
def FnExactDrainMessagesWrongFalsely : Prop := fnExactDrainMessagesRow.holds Tryz.pinned (OpenSpec.ofChange fnExactDrainMessagesWrong)

/- THE SECOND FORM. 'bulk': how many values and letters a reading holds, each counted each time it is reached (what is shared counts as often as it is met; a slice's spare places count too). A statement '..UptoSaid' is the law's where the arguments, and the package variables that the reading takes, are together of bulk at most 1048576: NARROWER than '..Said'. Prove '..Said' where nothing that the law and all that it calls make is longer than what came in: it says more and counts as full. Else prove '..UptoSaid'. A law counts once. -/
mutual
def uptoBulk {H : Type} : DataW H → Nat
  | .lit (.string bytes) => bytes.length + 1
  | .lit _ => 1
  | .nil => 1
  | .ptr d => uptoBulk d + 1
  | .slice elems spare => uptoBulkAll elems + uptoBulkAll spare + 1
  | .agg parts => uptoBulkAll parts + 1
  | .iface _ d => uptoBulk d + 1
  | .map entries => uptoBulkEntries entries + 1
  | .held _ => 1
def uptoBulkAll {H : Type} : List (DataW H) → Nat
  | [] => 0
  | d :: r => uptoBulk d + uptoBulkAll r
def uptoBulkEntries {H : Type} : List (Lit × DataW H) → Nat
  | [] => 0
  | x :: r => uptoBulkEntry x + uptoBulkEntries r
def uptoBulkEntry {H : Type} : Lit × DataW H → Nat
  | (.string bytes, d) => bytes.length + uptoBulk d + 1
  | (_, d) => uptoBulk d + 1
 end
def uptoSmall : (H : Type) → List (DataW H) → Bool := fun _ ds => decide (uptoBulkAll ds ≤ 1048576)
def OpenSpec.upto (s : _root_.Go.ChangeSpec) : _root_.Go.OpenSpec := { _root_.Go.OpenSpec.ofChange s with cond := some uptoSmall }

/-- 'laws.FnExactQueryAnswers', WHERE WHAT IT READS IS OF BULK AT MOST 1048576: true; the input reads as it did. -/
def fnExactQueryAnswersUptoRow : OpenClaim := { program := "ytakjhbbbjbebdaagreat", sum := "7891eeeb84236b57988d77719d09a2ae3e78070515535cdf4cf9cde6137cec06", func := "loop.example/g01922/laws.FnExactQueryAnswers", spec := "fnExactQueryAnswers", unfollowed := true, recurses := true, apart := false, narrowed := true }
def FnExactQueryAnswersUptoSaid : Prop := fnExactQueryAnswersUptoRow.holds Tryz.pinned (OpenSpec.upto fnExactQueryAnswersSpec)

/-- 'laws.FnExactNextMessage', WHERE WHAT IT READS IS OF BULK AT MOST 1048576: true; the input reads as it did. -/
def fnExactNextMessageUptoRow : OpenClaim := { program := "ytakjhbbbjbebdaagreat", sum := "7891eeeb84236b57988d77719d09a2ae3e78070515535cdf4cf9cde6137cec06", func := "loop.example/g01922/laws.FnExactNextMessage", spec := "fnExactNextMessage", unfollowed := true, recurses := true, apart := false, narrowed := true }
def FnExactNextMessageUptoSaid : Prop := fnExactNextMessageUptoRow.holds Tryz.pinned (OpenSpec.upto fnExactNextMessageSpec)

/-- 'laws.FnExactSkipMessage', WHERE WHAT IT READS IS OF BULK AT MOST 1048576: true; the input reads as it did. -/
def fnExactSkipMessageUptoRow : OpenClaim := { program := "ytakjhbbbjbebdaagreat", sum := "7891eeeb84236b57988d77719d09a2ae3e78070515535cdf4cf9cde6137cec06", func := "loop.example/g01922/laws.FnExactSkipMessage", spec := "fnExactSkipMessage", unfollowed := true, recurses := true, apart := false, narrowed := true }
def FnExactSkipMessageUptoSaid : Prop := fnExactSkipMessageUptoRow.holds Tryz.pinned (OpenSpec.upto fnExactSkipMessageSpec)

/-- 'laws.FnExactAuditMessages', WHERE WHAT IT READS IS OF BULK AT MOST 1048576: true; the input reads as it did. -/
def fnExactAuditMessagesUptoRow : OpenClaim := { program := "ytakjhbbbjbebdaagreat", sum := "7891eeeb84236b57988d77719d09a2ae3e78070515535cdf4cf9cde6137cec06", func := "loop.example/g01922/laws.FnExactAuditMessages", spec := "fnExactAuditMessages", unfollowed := true, recurses := true, apart := false, narrowed := true }
def FnExactAuditMessagesUptoSaid : Prop := fnExactAuditMessagesUptoRow.holds Tryz.pinned (OpenSpec.upto fnExactAuditMessagesSpec)

/-- 'laws.FnExactDrainMessages', WHERE WHAT IT READS IS OF BULK AT MOST 1048576: true; the input reads as it did. -/
def fnExactDrainMessagesUptoRow : OpenClaim := { program := "ytakjhbbbjbebdaagreat", sum := "7891eeeb84236b57988d77719d09a2ae3e78070515535cdf4cf9cde6137cec06", func := "loop.example/g01922/laws.FnExactDrainMessages", spec := "fnExactDrainMessages", unfollowed := true, recurses := true, apart := false, narrowed := true }
def FnExactDrainMessagesUptoSaid : Prop := fnExactDrainMessagesUptoRow.holds Tryz.pinned (OpenSpec.upto fnExactDrainMessagesSpec)

end Rows
end Go.Proofs.YtakjhbbbjbebdaaGreat
