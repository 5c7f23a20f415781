/- FnExactReplayLog: for every input the law returns true and changes nothing that was there. Part 9 of 9. -/
import Derived.Test.YtfkjjnddefojjaaGreatDoorEC7
import Derived.Test.YtfkjjnddefojjaaGreatDoorEKReplayLog
set_option linter.unusedVariables false
set_option linter.unusedSimpArgs false
set_option linter.unnecessarySimpa false
set_option linter.unusedSectionVars false
/- What a valid graph is. -/
set_option linter.unusedVariables false
set_option linter.unusedSimpArgs false
set_option linter.unnecessarySimpa false
namespace Go.Proofs.YtfkjjnddefojjaaGreatDoor.D
open Go.RowKit

abbrev GrT := (List Int) × (List (Int × Int × Int × Int))
theorem scanI {R : Type} {f : Int → Option (Out R Int)} (N : Nat) (p : Nat → Prop) [DecidablePred p] (r : R) (hN : N ≤ 9223372036854775807)
    (h : ∀ i : Nat, i < N → f (i : Int) = some (if p i then .nxt ((i + 1 : Nat) : Int) else .ret r)) (he : f (N : Int) = some (.brk (N : Int))) :
    (loopM f FUEL 0 = some (.brk (N : Int)) ∧ ∀ i, i < N → p i) ∨ (loopM f FUEL 0 = some (.ret r) ∧ ¬ ∀ i, i < N → p i) := by
  obtain ⟨o, e, hq⟩ := loopM_go (f := f) (fun i s => s = (i : Int) ∧ ∀ j : Nat, j < i → p j) (fun o => (o = .brk (N : Int) ∧ ∀ i, i < N → p i) ∨ (o = .ret r ∧ ¬ ∀ i, i < N → p i)) N (s := 0) (by
    rintro i s hi ⟨rfl, hp⟩
    by_cases hl : i < N
    · by_cases c : p i
      · refine .inl ⟨hl, _, by rw [h i hl, if_pos c], rfl, fun j hj => ?_⟩
        by_cases e : j = i
        · subst e; exact c
        · exact hp j (by omega)
      · exact .inr ⟨_, by rw [h i hl, if_neg c], (fun s' e => by cases e), .inr ⟨rfl, fun hx => c (hx i hl)⟩⟩
    · obtain rfl : i = N := by omega
      exact .inr ⟨_, he, (fun s' e => by cases e), .inl ⟨rfl, hp⟩⟩) ⟨rfl, by omega⟩ (up63 hN)
  rcases hq with ⟨rfl, hq⟩ | ⟨rfl, hq⟩
  · exact .inl ⟨e, hq⟩
  · exact .inr ⟨e, hq⟩
structure GOk (g : GrT) : Prop where
  n1 : 1 ≤ g.1.length
  n5 : g.1.length ≤ 5
  m : g.2.length ≤ 12
  val : ∀ v ∈ g.1, 0 ≤ v ∧ v ≤ 2
  edge : ∀ e ∈ g.2, (0 ≤ e.2.1 ∧ e.2.1 < g.1.length) ∧ (0 ≤ e.2.2.1 ∧ e.2.2.1 < g.1.length) ∧ 0 ≤ e.2.2.2 ∧ e.2.2.2 ≤ 2
  asc : ∀ i : Nat, i + 1 < g.2.length → (nth g.2 i).1 < (nth g.2 ((i + 1 : Nat) : Int)).1
def edgeP (e : Int × Int × Int × Int) (n : Int) : Prop := (1 ≤ e.1 ∧ e.1 ≤ 99) ∧ (0 ≤ e.2.1 ∧ e.2.1 ≤ n - 1) ∧ (0 ≤ e.2.2.1 ∧ e.2.2.1 ≤ n - 1) ∧ 0 ≤ e.2.2.2 ∧ e.2.2.2 ≤ 2
instance (e n) : Decidable (edgeP e n) := by unfold edgeP; infer_instance
theorem i_edge (e : Int × Int × Int × Int) {n : Nat} (hn : n ≤ 1048576) : m_i_edgeOk e (n : Int) = some (decide (edgeP e n)) := by
  unfold m_i_edgeOk edgeP
  simp only [i_in, Option.bind_some, wrap_pred (show n ≤ 9223372036854775807 by omega)]
  by_cases c1 : 1 ≤ e.1 ∧ e.1 ≤ 99 <;> by_cases c2 : 0 ≤ e.2.1 ∧ e.2.1 ≤ (n : Int) - 1 <;> by_cases c3 : 0 ≤ e.2.2.1 ∧ e.2.2.1 ≤ (n : Int) - 1 <;> simp [c1, c2, c3]
def GOkF (g : GrT) : Prop := GOk g ∧ ∀ e ∈ g.2, 1 ≤ e.1 ∧ e.1 ≤ 99
theorem i_validF (g : GrT) (h1 : g.1.length ≤ 1048576) (h2 : g.2.length ≤ 1048576) : ∃ b, m_i_IsValidGraph g = some b ∧ (b = true ↔ GOkF g) := by
  unfold m_i_IsValidGraph
  have k0 := scanI (f := m_i_IsValidGraph_l0 g) g.1.length (fun i => 0 ≤ nth g.1 i ∧ nth g.1 i ≤ 2) false (by omega) (fun i hi => by
    unfold m_i_IsValidGraph_l0
    rw [if_pos (by simp; omega), getI_nth (by omega) (by omega)]; simp only [Option.bind_some, i_in, decide_eq_true_eq]
    split
    · rw [wrap_succ (by omega)]
    · rfl) (by unfold m_i_IsValidGraph_l0; rw [if_neg (by simp)])
  have k1 := scanI (f := m_i_IsValidGraph_l1 g) g.2.length (fun i => edgeP (nth g.2 i) g.1.length ∧ (0 < i → (nth g.2 ((i : Int) - 1)).1 < (nth g.2 i).1)) false (by omega) (fun i hi => by
    unfold m_i_IsValidGraph_l1
    rw [if_pos (by simp; omega), getI_nth (by omega) (by omega)]; simp only [Option.bind_some]
    have e1 := i_edge (nth g.2 (i : Int)) h1
    have e1 : m_i_edgeOk ((nth g.2 (i : Int)).1, (nth g.2 (i : Int)).2.1, (nth g.2 (i : Int)).2.2.1, (nth g.2 (i : Int)).2.2.2) (g.1.length : Int) = _ := e1
    rw [e1]; simp only [Option.bind_some, decide_eq_true_eq]
    by_cases c1 : edgeP (nth g.2 (i : Int)) g.1.length
    · rw [if_pos c1]
      by_cases c2 : 0 < i
      · rw [if_pos (by omega), wrap_pred (by omega), getI_nth (by omega) (by omega)]; simp only [Option.bind_some]
        by_cases c3 : (nth g.2 ((i : Int) - 1)).1 < (nth g.2 (i : Int)).1
        · rw [if_neg (by omega), if_pos ⟨c1, fun _ => c3⟩, wrap_succ (by omega)]
        · rw [if_pos (by omega), if_neg (fun h => c3 (h.2 c2))]
      · rw [if_neg (by omega), if_pos ⟨c1, fun h => absurd h c2⟩, wrap_succ (by omega)]
    · rw [if_neg c1, if_neg (fun h => c1 h.1)]) (by unfold m_i_IsValidGraph_l1; rw [if_neg (by simp)])
  rcases k0 with ⟨k0, j0⟩ | ⟨k0, j0⟩
  · rw [bindL_brk k0]
    rcases k1 with ⟨k1, j1⟩ | ⟨k1, j1⟩
    · rw [bindL_brk k1, i_in]; simp only [Option.bind_some, decide_eq_true_eq]
      split
      · rename_i c
        refine ⟨_, rfl, fun hb => ?_, fun G => decide_eq_true (by have := G.1.m; omega)⟩
        have hb := of_decide_eq_true hb
        refine ⟨⟨by omega, by omega, by omega, fun v hv => ?_, fun e he => ?_, fun i hi => ?_⟩, fun e he => ?_⟩
        rotate_left 3
        · obtain ⟨i, hi, rfl⟩ := mem_nth he
          exact (j1 i hi).1.1
        · obtain ⟨i, hi, rfl⟩ := mem_nth hv
          exact j0 i hi
        · obtain ⟨i, hi, rfl⟩ := mem_nth he
          obtain ⟨a1, a2, a3, a4⟩ := (j1 i hi).1
          exact ⟨⟨a2.1, by omega⟩, ⟨a3.1, by omega⟩, a4⟩
        · have := (j1 (i + 1) hi).2 (by omega)
          rwa [show (((i + 1 : Nat) : Int) - 1) = (i : Int) from by omega] at this
      · rename_i c
        exact ⟨false, rfl, (fun h => by cases h), fun G => absurd (by have := G.1.n1; have := G.1.n5; omega) c⟩
    · rw [bindL_ret k1]
      refine ⟨false, rfl, (fun h => by cases h), fun G => absurd (fun i hi => ?_) j1⟩
      have hm := nth_mem (xs := g.2) (i := (i : Int)) (by omega) (by omega)
      obtain ⟨e1, e2, e3, e4⟩ := G.1.edge _ hm
      refine ⟨⟨G.2 _ hm, ⟨e1.1, by omega⟩, ⟨e2.1, by omega⟩, e3, e4⟩, fun h0 => ?_⟩
      have := G.1.asc (i - 1) (by omega)
      rwa [show ((i - 1 : Nat) : Int) = (i : Int) - 1 from by omega, show (((i - 1) + 1 : Nat) : Int) = (i : Int) from by omega] at this
  · rw [bindL_ret k0]
    exact ⟨false, rfl, (fun h => by cases h), fun G => absurd (fun i hi => G.1.val _ (nth_mem (by omega) (by omega))) j0⟩
theorem i_validG (g : GrT) (h1 : g.1.length ≤ 1048576) (h2 : g.2.length ≤ 1048576) : ∃ b, m_i_IsValidGraph g = some b ∧ (b = true → GOk g) := by
  obtain ⟨b, h1, h2⟩ := i_validF g h1 h2
  exact ⟨b, h1, fun h => (h2.1 h).1⟩
theorem GOk.lt {g : GrT} (G : GOk g) {i j : Nat} (h : i < j) (hj : j < g.2.length) : (nth g.2 (i : Int)).1 < (nth g.2 (j : Int)).1 := by
  induction h with
  | refl => exact G.asc i hj
  | step h ih =>
    rename_i m
    have h1 := ih (by omega)
    have h2 := G.asc m hj
    exact Int.lt_trans h1 h2
end Go.Proofs.YtfkjjnddefojjaaGreatDoor.D
/- Sets of small numbers as the bits of one number. No program text is named here. -/
set_option linter.unusedVariables false
set_option linter.unusedSimpArgs false
namespace Go.Proofs.YtfkjjnddefojjaaGreatDoor.D
open Go.RowKit

/-! ### Sets as bits -/
end Go.Proofs.YtfkjjnddefojjaaGreatDoor.D
/- Sets of states: what is reached by tests, what is behind a letter, by the reference and by the program. -/
set_option linter.unusedVariables false
set_option linter.unusedSimpArgs false
set_option linter.unnecessarySimpa false
namespace Go.Proofs.YtfkjjnddefojjaaGreatDoor.D
open Go.RowKit

section
variable {a : AutT} {n : Nat} (V : VA a n) (hn : n ≤ 12)
include V hn
end
section
variable {a : AutT} {n : Nat} (V : VA a n) (hn : n ≤ 12)
include V hn
end
section
variable {a : AutT} {n : Nat} (V : VA a n) (hn : n ≤ 12)
include V
include hn
end
end Go.Proofs.YtfkjjnddefojjaaGreatDoor.D
/- The vertices behind each vertex of the product, by the program. -/
set_option linter.unusedVariables false
set_option linter.unusedSimpArgs false
set_option linter.unnecessarySimpa false
set_option linter.unusedSectionVars false
namespace Go.Proofs.YtfkjjnddefojjaaGreatDoor.D
open Go.RowKit

/-! ### Rows by number -/
section
variable {α : Type} {N : Nat} {F G : Nat → α}
end
abbrev EdT := Int × Int × Int × Int
abbrev ArT := (Int × Bool) × Int × Int
def inv (e : EdT) : ArT := ((e.1, true), 2 * e.2.2.2 + 1, e.2.1)
end Go.Proofs.YtfkjjnddefojjaaGreatDoor.D
/- The vertices behind each vertex of the product, by the program: the table. -/
set_option linter.unusedVariables false
set_option linter.unusedSimpArgs false
set_option linter.unnecessarySimpa false
set_option linter.unusedSectionVars false
namespace Go.Proofs.YtfkjjnddefojjaaGreatDoor.D
open Go.RowKit

section
variable {g : GrT} {a : AutT} (G : GOk g) (V : VA a a.2.1.length) (hn : a.2.1.length ≤ 12)
include G V hn
end
section
variable {g : GrT} {a : AutT} {F : Nat → List Int} {N : Nat}
end
section
variable {g : GrT} {a : AutT} (G : GOk g) (V : VA a a.2.1.length) (hn : a.2.1.length ≤ 12)
include G V hn
end
end Go.Proofs.YtfkjjnddefojjaaGreatDoor.D
/- The vertices behind each vertex of the product, by the reference. -/
set_option linter.unusedVariables false
set_option linter.unusedSimpArgs false
set_option linter.unnecessarySimpa false
set_option linter.unusedSectionVars false
namespace Go.Proofs.YtfkjjnddefojjaaGreatDoor.D
open Go.RowKit

section
variable {a : AutT} {n : Nat} (V : VA a n) (hn : n ≤ 12)
include V hn
end
section
variable {g : GrT} {a : AutT} (G : GOk g) (V : VA a a.2.1.length) (hn : a.2.1.length ≤ 12)
include G V hn
end
end Go.Proofs.YtfkjjnddefojjaaGreatDoor.D
/- A search by ranks, as a list of states: the queue grows, i of it looked at. No program text is named here. -/
set_option linter.unusedVariables false
set_option linter.unusedSimpArgs false
namespace Go.Proofs.YtfkjjnddefojjaaGreatDoor.D
open Go.RowKit

/-! ### A search by ranks -/
section
variable {nx : Int → List Int} {N : Nat} {v : Int} (hv : 0 ≤ v ∧ v < N) (hn : ∀ x : Int, 0 ≤ x → x < N → ∀ y ∈ nx x, 0 ≤ y ∧ y < N)
include hv
include hn
end
end Go.Proofs.YtfkjjnddefojjaaGreatDoor.D
/- The search over the product, by the program. -/
set_option linter.unusedVariables false
set_option linter.unusedSimpArgs false
set_option linter.unnecessarySimpa false
set_option linter.unusedSectionVars false
namespace Go.Proofs.YtfkjjnddefojjaaGreatDoor.D
open Go.RowKit

section
variable {nx : Int → List Int} {N : Nat} {v : Int} (hN : N ≤ 60) (hv : 0 ≤ v ∧ v < N) (hn : ∀ x : Int, 0 ≤ x → x < N → ∀ y ∈ nx x, 0 ≤ y ∧ y < N) (hl : ∀ x, (nx x).length ≤ 100000)
include hN hv hn hl
end
end Go.Proofs.YtfkjjnddefojjaaGreatDoor.D
/- Automata: what is valid, by the reference and by the program. -/
set_option linter.unusedVariables false
set_option linter.unusedSimpArgs false
set_option linter.unnecessarySimpa false
namespace Go.Proofs.YtfkjjnddefojjaaGreatDoor.D
open Go.RowKit
end Go.Proofs.YtfkjjnddefojjaaGreatDoor.D
/- The ranks of the product's vertices, by the reference and by the program. -/
set_option linter.unusedVariables false
set_option linter.unusedSimpArgs false
set_option linter.unnecessarySimpa false
set_option linter.unusedSectionVars false
namespace Go.Proofs.YtfkjjnddefojjaaGreatDoor.D
open Go.RowKit

theorem validG_eq (g : GrT) : m_s_IsValidGraph g = m_i_IsValidGraph g := by
  have h0 : m_s_IsValidGraph_l0 g = m_i_IsValidGraph_l0 g := rfl
  have h1 : m_s_IsValidGraph_l1 g = m_i_IsValidGraph_l1 g := by
    funext s
    unfold m_s_IsValidGraph_l1 m_i_IsValidGraph_l1
    split
    · cases hx : getI g.2 s with
      | none => rfl
      | some x => rfl
    · rfl
  unfold m_s_IsValidGraph m_i_IsValidGraph
  rw [h0, h1]; rfl
def GOOD (g : GrT) (a : AutT) : Prop := GOk g ∧ a.2.1.length ≤ 12 ∧ VA a a.2.1.length
section
variable {g : GrT} {a : AutT} (H : GOOD g a)
include H
end
section
variable {g : GrT} {a : AutT} (H : GOOD g a)
include H
end
section
variable {g : GrT} {a : AutT} (H : GOOD g a) {x : Int} (hx : 0 ≤ x ∧ x < g.1.length)
include H hx
end
end Go.Proofs.YtfkjjnddefojjaaGreatDoor.D
/- Expressions: words of tokens and trees; where an operand starts; sizes. By the reference and by the program. -/
set_option linter.unusedVariables false
set_option linter.unusedSimpArgs false
set_option linter.unnecessarySimpa false
set_option linter.unusedSectionVars false
namespace Go.Proofs.YtfkjjnddefojjaaGreatDoor.D
open Go.RowKit

/-! ### Tokens -/
abbrev Tok := Int × Int × Int × Int
def ar (t : Tok) : Int :=
  if t.1 = 1 ∨ t.1 = 2 then (if t.2.1 = 0 ∧ t.2.2.1 = 0 ∧ t.2.2.2 = 0 then 0 else -1)
  else if t.1 = 3 then (if (0 ≤ t.2.1 ∧ t.2.1 ≤ 8) ∧ t.2.2.1 = 0 ∧ t.2.2.2 = 0 then 0 else -1)
  else if t.1 = 4 ∨ t.1 = 5 then (if t.2.1 = 0 ∧ t.2.2.1 = 0 ∧ t.2.2.2 = 0 then 2 else -1)
  else if t.1 = 6 then (if t.2.1 = 0 ∧ t.2.2.1 = 0 ∧ t.2.2.2 = 0 then 1 else -1)
  else if t.1 = 7 then (if t.2.1 = 0 ∧ (0 ≤ t.2.2.1 ∧ t.2.2.1 ≤ t.2.2.2) ∧ (1 ≤ t.2.2.2 ∧ t.2.2.2 ≤ 3) then 1 else -1)
  else -1
/-! ### Trees -/
/-! ### Read by a stack -/
def stp (s : List (Tr Tok)) (t : Tok) : Option (List (Tr Tok)) := if ar t < 0 ∨ (s.length : Int) < ar t then none else some (s.take (s.length - (ar t).toNat) ++ [.node t (s.drop (s.length - (ar t).toNat))])
def run : List (Tr Tok) → List Tok → Option (List (Tr Tok))
  | s, [] => some s
  | s, t :: l => (stp s t).bind fun s' => run s' l
/-! ### Where an operand starts -/
end Go.Proofs.YtfkjjnddefojjaaGreatDoor.D
/- Expressions: sizes, repetitions written out. By the reference and by the program. -/
set_option linter.unusedVariables false
set_option linter.unusedSimpArgs false
set_option linter.unnecessarySimpa false
set_option linter.unusedSectionVars false
namespace Go.Proofs.YtfkjjnddefojjaaGreatDoor.D
open Go.RowKit

instance trInh {α : Type} : Inhabited (Tr α) := ⟨.nil⟩
/-! ### Sizes -/
/-! ### The reference's walk over words -/
/-! ### Repetitions written out -/
end Go.Proofs.YtfkjjnddefojjaaGreatDoor.D
/- The states from which an accepting state is reached: by rounds, and until nothing turns. -/
set_option linter.unusedVariables false
set_option linter.unusedSimpArgs false
set_option linter.unnecessarySimpa false
set_option linter.unusedSectionVars false
namespace Go.Proofs.YtfkjjnddefojjaaGreatDoor.D
open Go.RowKit

def hitT (out : List Bool) (t : Int) : Bool := decide (t ≥ 0) && nth out t
def hit (out : List Bool) (row : List Int) : Bool := row.any (hitT out)
def passAt (a : AutT) (out : List Bool) (s : Nat) : List Bool := if hit out (nth a.2.2 s) then out.set s true else out
def passTo (a : AutT) (out : List Bool) : Nat → List Bool
  | 0 => out
  | s + 1 => passAt a (passTo a out s) s
def cnt (out : List Bool) : Nat := out.count true
section
variable {a : AutT} {n : Nat}
def it (a : AutT) : Nat → List Bool
  | 0 => a.2.1
  | j + 1 => passTo a (it a j) a.2.1.length
def live (a : AutT) : List Bool := it a a.2.1.length
section
variable (V : VA a n) (hn : n ≤ 1000000)
include V hn
end
end
end Go.Proofs.YtfkjjnddefojjaaGreatDoor.D
/- Automata numbered from their first state on: by the program over a map, by the reference over representatives. -/
set_option linter.unusedVariables false
set_option linter.unusedSimpArgs false
set_option linter.unnecessarySimpa false
set_option linter.unusedSectionVars false
namespace Go.Proofs.YtfkjjnddefojjaaGreatDoor.D
open Go.RowKit

def nothing : AutT := (0, [false], [[-1, -1, -1, -1, -1, -1, -1, -1, -1]])
section
variable {κ : Type} [DecidableEq κ] [Inhabited κ] {nx : κ → List (Option κ)} {first : κ} {G : κ → Prop} {B : Nat}
end

/-! ### The program: keys that are ints -/
section
variable {nx : Int → List (Option Int)} {first : Int} {G : Int → Prop} {B : Nat}
end

/-! ### The reference: classes and their representatives -/
section
variable {a : AutT} {n : Nat} {c : List Int} {lv : List Bool} {nx : Int → List (Option Int)} {G : Int → Prop} {B : Nat} {acc : Int → Bool}
def good (n : Nat) (lv : List Bool) (r : Int) : Prop := 0 ≤ r ∧ r < n ∧ nth lv r = true
end
end Go.Proofs.YtfkjjnddefojjaaGreatDoor.D
/- Subsets numbered from the first one on, so many at most: the reference and the program find the same automaton. -/
set_option linter.unusedVariables false
set_option linter.unusedSimpArgs false
set_option linter.unnecessarySimpa false
set_option linter.unusedSectionVars false
namespace Go.Proofs.YtfkjjnddefojjaaGreatDoor.D
open Go.RowKit

abbrev PosT := (List Int) × Int × Int × (List Int) × Bool
/-! ### Sets are numbers -/
/-! ### So many at most -/
section
variable {κ : Type} [DecidableEq κ] (nx : κ → List (Option κ)) (first : κ) (acc : κ → Bool) (most : Nat)
end
section
variable {κ : Type} [DecidableEq κ] {nx : κ → List (Option κ)} {first : κ} {acc : κ → Bool} {most : Nat}
end
section
variable {p : PosT} {most : Nat} (hl : p.2.2.2.1.length = p.1.length) (hb : p.1.length ≤ 1000000) (hm : most ≤ 900000) (h1 : 1 ≤ most)
include hl hb hm h1
end
end Go.Proofs.YtfkjjnddefojjaaGreatDoor.D
/- Positions of an expression: the reference and the program build the same. -/
set_option linter.unusedVariables false
set_option linter.unusedSimpArgs false
set_option linter.unnecessarySimpa false
set_option linter.unusedSectionVars false
namespace Go.Proofs.YtfkjjnddefojjaaGreatDoor.D
open Go.RowKit

end Go.Proofs.YtfkjjnddefojjaaGreatDoor.D
/- What is numbered is small. -/
set_option linter.unusedVariables false
set_option linter.unusedSimpArgs false
set_option linter.unnecessarySimpa false
set_option linter.unusedSectionVars false
namespace Go.Proofs.YtfkjjnddefojjaaGreatDoor.D
open Go.RowKit

end Go.Proofs.YtfkjjnddefojjaaGreatDoor.D
/- Classes of states and the minimal automaton, by the reference and by the program. -/
set_option linter.unusedVariables false
set_option linter.unusedSimpArgs false
set_option linter.unnecessarySimpa false
set_option linter.unusedSectionVars false
namespace Go.Proofs.YtfkjjnddefojjaaGreatDoor.D
open Go.RowKit

/-! ### Numberings that refine -/
/-! ### Comparing rows -/
theorem q_l2Cmp (xs ys : List Int) (hN : xs.length ≤ 1048576) : ∃ r, m_s_l2Cmp xs ys = some r ∧ (r = 0 ↔ xs = ys) := by
  unfold m_s_l2Cmp
  have h0 := cmpGo (f := m_s_l2Cmp_l0 xs ys) xs ys (fun i h h' => by
    simp only [m_s_l2Cmp_l0, lt_nat h, lt_nat h', if_true, getI_nat h, getI_nat h', Option.bind_some, wrap_succ (show i < 9223372036854775807 by omega)]
    by_cases h1 : xs[i] < ys[i]
    · simp [h1]
    · by_cases h2 : xs[i] > ys[i]
      · simp [h1, h2]
      · simp [h1, h2]) (fun i hi => by
    simp only [m_s_l2Cmp_l0]
    by_cases h1 : i < xs.length
    · have h2 : ¬ i < ys.length := by omega
      simp [h1, h2]
    · simp [h1]) xs.length 0 FUEL (by omega) (fuelUp _ (by omega))
  rw [show (((0 : Nat) : Int)) = (0 : Int) from rfl] at h0
  rcases h0 with ⟨r, e, h1, h2⟩ | ⟨s, e, h1⟩
  · exact ⟨r, by rw [e]; rfl, by simp [h1, h2]⟩
  · rw [e]
    simp only [bindL]
    by_cases c1 : xs.length < ys.length
    · exact ⟨-1, by simp [c1], by simp; intro e; subst e; omega⟩
    · by_cases c2 : xs.length > ys.length
      · exact ⟨1, by simp [c1, c2], by simp; intro e; subst e; omega⟩
      · exact ⟨0, by simp [c1, c2], by simpa using h1 (by omega)⟩
theorem q_sliceEq (xs ys : List Int) (hN : xs.length ≤ 9223372036854775807) : m_g_slices_Equal_S_int_int xs ys = some (decide (xs = ys)) :=
  eqL (f := m_g_slices_Equal_S_int_int_l0 xs ys) xs ys hN (fun i h h' => by
    simp only [m_g_slices_Equal_S_int_int_l0, lt_nat h, if_true, getI_nat h, getI_nat h', Option.bind_some, wrap_succ (show i < 9223372036854775807 by omega)]
    by_cases c : xs[i] = ys[i] <;> simp [c]) (by simp only [m_g_slices_Equal_S_int_int_l0, lt_self]; rfl)

/-! ### Classes -/
def ent (a : AutT) (c : List Int) (s : Int) (k : Nat) : Int := if mv a s k < 0 then -1 else nth c (mv a s k)
section
variable {a : AutT} {n : Nat}
end
end Go.Proofs.YtfkjjnddefojjaaGreatDoor.D
/- The classes and the minimal automaton as the reference and the program reckon them. -/
set_option linter.unusedVariables false
set_option linter.unusedSimpArgs false
set_option linter.unnecessarySimpa false
set_option linter.unusedSectionVars false
namespace Go.Proofs.YtfkjjnddefojjaaGreatDoor.D
open Go.RowKit

section
variable {a : AutT} {n : Nat} {c : List Int}
section
variable (V : VA a n) (hn : n ≤ 1000000) (hc : c.length = n)
include V hn hc
end
end
section
variable {a : AutT} {n : Nat} (V : VA a n) (hn : n ≤ 1000000)
include V hn
end
end Go.Proofs.YtfkjjnddefojjaaGreatDoor.D
/- What is numbered is an automaton. -/
set_option linter.unusedVariables false
set_option linter.unusedSimpArgs false
set_option linter.unnecessarySimpa false
set_option linter.unusedSectionVars false
namespace Go.Proofs.YtfkjjnddefojjaaGreatDoor.D
open Go.RowKit
section
variable {κ : Type} [DecidableEq κ] [Inhabited κ] {nx : κ → List (Option κ)} {first : κ} {G : κ → Prop} {B N : Nat} {acc : κ → Bool}
end
end Go.Proofs.YtfkjjnddefojjaaGreatDoor.D
/- The minimal automaton: the reference numbers representatives, the program numbers classes. -/
set_option linter.unusedVariables false
set_option linter.unusedSimpArgs false
set_option linter.unnecessarySimpa false
set_option linter.unusedSectionVars false
namespace Go.Proofs.YtfkjjnddefojjaaGreatDoor.D
open Go.RowKit

section
variable {a : AutT} {n : Nat}
end
end Go.Proofs.YtfkjjnddefojjaaGreatDoor.D
/- A numbering with a most: it ends, or it gives up. -/
set_option linter.unusedVariables false
set_option linter.unusedSimpArgs false
set_option linter.unnecessarySimpa false
set_option linter.unusedSectionVars false
namespace Go.Proofs.YtfkjjnddefojjaaGreatDoor.D
open Go.RowKit

end Go.Proofs.YtfkjjnddefojjaaGreatDoor.D
/- The reference and the program compile an expression to the same automaton. -/
set_option linter.unusedVariables false
set_option linter.unusedSimpArgs false
set_option linter.unnecessarySimpa false
set_option linter.unusedSectionVars false
namespace Go.Proofs.YtfkjjnddefojjaaGreatDoor.D
open Go.RowKit

end Go.Proofs.YtfkjjnddefojjaaGreatDoor.D
/- From 'the call returns true and changes nothing that was there' to the row's own post, whatever the arguments' types. -/
set_option linter.unusedVariables false
set_option linter.unusedSimpArgs false
namespace Go.Proofs.YtfkjjnddefojjaaGreatDoor
open Go.ChangeShapes Go.WideShapes Go.ChangeAt Go.RowKit
theorem own : ownKnob Tryz.prog.godebug = none := by kernel_rfl
theorem laidOut : laidOutB Tryz.prog = true := by kernel_rfl
theorem below_trodAll {H : Type} {enc : TypeId × Value → H} {P : Program} (hl : laidOutB P = true) {W W' : World} (hb : Below W.heap.size W W') :
    ∀ {ts : List TypeId} {vs : List Value} {ds : List (DataW H)} {ps : List MemPlace}, (∀ t ∈ ts, P.readableRec t = true ∧ t < P.types.size) →
      DataW.TrodAll enc P W 0 (fun _ => true) true ts vs ds ps → (∀ x ∈ ps, x.block < W.heap.size) → DataW.TrodAll enc P W' 0 (fun b => decide (b < W.heap.size)) true ts vs ds ps
  | [], [], [], ps, _, h, _ => h
  | t :: ts, v :: vs, d :: ds, ps, hr, ⟨p, q, h1, h2, h3⟩, hlt => by
    subst h3
    exact ⟨p, q, Below.trod hl (hr t (by simp)).1 (hr t (by simp)).2 h1 hb fun x hx => hlt x (by simp [hx]), below_trodAll hl hb (fun t ht => hr t (by simp [ht])) h2 fun x hx => hlt x (by simp [hx]), rfl⟩
  | [], _ :: _, _, _, _, h, _ => h.elim
  | [], [], _ :: _, _, _, h, _ => h.elim
  | _ :: _, [], _, _, _, h, _ => h.elim
  | _ :: _, _ :: _, [], _, _, h, _ => h.elim
theorem law_post {H : Type} {enc : TypeId × Value → H} {f : Func} {s : ChangeSpec} {W W' : World} {args : Array Value} {ds : List (DataW H)} {before : List MemPlace} (tb : TypeId)
    (hb : Tryz.prog.underlying tb = some .bool) (hr : f.resultTypes = #[tb]) (hp : (f.params.toList.all fun t => Tryz.prog.readableRec t && decide (t < Tryz.prog.types.size)) = true) (hv : s.vars = [])
    (hW : DataW.Whole enc Tryz.prog f.params.toList s.vars false W args.toList ds [] before) (hres : (s.fn H (ds ++ [])).results = [.lit (.bool true)]) (hargs : (s.fn H (ds ++ [])).args = ds) (hvars : (s.fn H (ds ++ [])).vars = [])
    (hbel : Below W.heap.size W W') : s.post enc Tryz.prog f false true false false W args (.bool true) W' := by
  obtain ⟨p, q, h1, h2, h3, h4, h5⟩ := hW
  have hW' : DataW.Whole enc Tryz.prog f.params.toList s.vars false W args.toList ds [] before := ⟨p, q, h1, h2, h3, h4, h5⟩
  have hq : q = [] := by rw [hv] at h2; exact h2
  subst hq
  simp only [List.append_nil] at h3
  subst h3
  refine ⟨ds, [], before, [], before, [], hW', ?_, ?_, ?_, hbel.frame _, fun h => by cases h⟩
  · rw [hres, hr]
    exact trodAll_mk1 (shut_bool hb true)
  · rw [hargs]
    exact below_trodAll laidOut hbel (fun t ht => by have := List.all_eq_true.1 hp t ht; simpa using this) h1 fun x hx => by simpa using hW'.lt x hx
  · rw [hvars, hv]; rfl
end Go.Proofs.YtfkjjnddefojjaaGreatDoor
/- Automata compared. -/
set_option linter.unusedVariables false
set_option linter.unusedSimpArgs false
set_option linter.unnecessarySimpa false
set_option linter.unusedSectionVars false
namespace Go.Proofs.YtfkjjnddefojjaaGreatDoor.D
open Go.RowKit

end Go.Proofs.YtfkjjnddefojjaaGreatDoor.D
/- Automata, expressions and registries compared; registries built. -/
set_option linter.unusedVariables false
set_option linter.unusedSimpArgs false
set_option linter.unnecessarySimpa false
set_option linter.unusedSectionVars false
set_option synthInstance.maxSize 20000
set_option synthInstance.maxHeartbeats 2000000
namespace Go.Proofs.YtfkjjnddefojjaaGreatDoor.D
open Go.RowKit

/-! ### Two loops that do the same -/
theorem loopM_same {R S : Type} {f g : S → Option (Out R S)} (Inv : Nat → S → Prop) (h : ∀ i s, Inv i s → g s = f s ∧ ∀ s', f s = some (.nxt s') → Inv (i + 1) s') : ∀ (k i : Nat) (s : S), Inv i s → loopM g k s = loopM f k s
  | 0, _, _, _ => rfl
  | k + 1, i, s, hI => by
    obtain ⟨h1, h2⟩ := h i s hI
    rw [loopM, loopM, h1]
    cases e : f s with
    | none => rfl
    | some o =>
      cases o with
      | nxt s' => exact loopM_same Inv h k (i + 1) s' (h2 s' e)
      | brk s' => rfl
      | ret r => rfl
/-! ### The registry of some queries -/
end Go.Proofs.YtfkjjnddefojjaaGreatDoor.D
/- Histories and graphs of versions: both programs answer alike. -/
set_option linter.unusedVariables false
set_option linter.unusedSimpArgs false
set_option linter.unnecessarySimpa false
set_option linter.unusedSectionVars false
set_option synthInstance.maxSize 20000
set_option synthInstance.maxHeartbeats 2000000
namespace Go.Proofs.YtfkjjnddefojjaaGreatDoor.D
open Go.RowKit

abbrev HisT := Int × (List GrT)
theorem s_copyG (g : GrT) (hg : Data.sm g) : m_s_l3Copy g = some g := by
  have h1 := (sm_list hg.1).1
  have h2 := (sm_list hg.2).1
  unfold m_s_l3Copy
  rw [appI_ok (by simp; omega)]; simp only [Option.bind_some, List.nil_append]
  rw [appI_ok (by simp; omega)]; rfl
theorem i_copyG (g : GrT) (hg : Data.sm g) : m_i_copyGraph g = some g := by
  have h1 := (sm_list hg.1).1
  have h2 := (sm_list hg.2).1
  unfold m_i_copyGraph m_i_copyInts
  rw [appI_ok (by simp; omega)]; simp only [Option.bind_some, List.nil_append]
  rw [appI_ok (by simp; omega)]; rfl
theorem validG_tot {g : GrT} (hg : Data.sm g) : ∃ b, m_i_IsValidGraph g = some b := by
  obtain ⟨b, e, _⟩ := i_validG g (sm_list hg.1).1 (sm_list hg.2).1
  exact ⟨b, e⟩
def okG (h : HisT) (g : GrT) : Prop := m_i_IsValidGraph g = some true ∧ g.1 = (nth h.2 0).1
instance (h g) : Decidable (okG h g) := by unfold okG; infer_instance
theorem hist_both (h : HisT) (hh : Data.sm h) : ∃ b, m_s_IsValidHistory h = some b ∧ m_i_IsValidHistory h = some b ∧ (b = true → (1 ≤ h.2.length ∧ h.2.length ≤ 8) ∧ 1 ≤ h.1 ∧ h.1 ≤ 1000 - (h.2.length : Int)) := by
  obtain ⟨hl, hs⟩ := sm_list hh.2
  have ew : IntKind.i64.wrap ((IntKind.i64.wrap (999 - (h.2.length : Int))) + 1) = 1000 - (h.2.length : Int) := by
    rw [wrapI (n := 999 - (h.2.length : Int)) (by omega) (by omega), wrapI (by omega) (by omega)]; omega
  have ks := scan (f := m_s_IsValidHistory_l0 h) h.2 (okG h) false (by omega) (fun i hi => by
    have hg := hs _ (nth_mem (xs := h.2) (i := (i : Int)) (by omega) (by omega))
    obtain ⟨b, e⟩ := validG_tot hg
    obtain ⟨r, er, hr⟩ := q_l2Cmp (nth h.2 (i : Int)).1 (nth h.2 0).1 (sm_list hg.1).1
    have e' : m_s_IsValidGraph ((nth h.2 (i : Int)).1, (nth h.2 (i : Int)).2) = some b := by rw [validG_eq]; exact e
    have hk : okG h (nth h.2 (i : Int)) ↔ b = true ∧ (nth h.2 (i : Int)).1 = (nth h.2 0).1 := by unfold okG; rw [e]; simp
    unfold m_s_IsValidHistory_l0
    rw [if_pos (by simp; omega), getI_nth (by omega) (by omega)]; simp only [Option.bind_some]
    rw [e', getI_nth (xs := h.2) (i := 0) (by omega) (by omega)]; simp only [Option.bind_some]
    rw [er, wrap_succ (by omega)]; simp only [Option.bind_some]
    cases b with
    | false => rw [if_neg (by decide), if_neg (fun c => by cases (hk.1 c).1)]
    | true =>
      rw [if_pos rfl]
      by_cases c : r = 0
      · rw [if_neg (by simp [c]), if_pos (hk.2 ⟨rfl, hr.1 c⟩)]
      · rw [if_pos (by simpa using c), if_neg (fun k => c (hr.2 (hk.1 k).2))]) (by unfold m_s_IsValidHistory_l0; simp)
  have ki := scan (f := m_i_IsValidHistory_l0 h) h.2 (okG h) false (by omega) (fun i hi => by
    have hg := hs _ (nth_mem (xs := h.2) (i := (i : Int)) (by omega) (by omega))
    obtain ⟨b, e⟩ := validG_tot hg
    have er := q_sliceEq (nth h.2 (i : Int)).1 (nth h.2 0).1 (by have := (sm_list hg.1).1; omega)
    have e' : m_i_IsValidGraph ((nth h.2 (i : Int)).1, (nth h.2 (i : Int)).2) = some b := e
    have hk : okG h (nth h.2 (i : Int)) ↔ b = true ∧ (nth h.2 (i : Int)).1 = (nth h.2 0).1 := by unfold okG; rw [e]; simp
    unfold m_i_IsValidHistory_l0
    rw [if_pos (by simp; omega), getI_nth (by omega) (by omega)]; simp only [Option.bind_some]
    rw [e', getI_nth (xs := h.2) (i := 0) (by omega) (by omega)]; simp only [Option.bind_some]
    rw [er, wrap_succ (by omega)]; simp only [Option.bind_some]
    cases b with
    | false => rw [if_neg (by decide), if_neg (fun c => by cases (hk.1 c).1)]
    | true =>
      rw [if_pos rfl]
      by_cases c : (nth h.2 (i : Int)).1 = (nth h.2 0).1
      · rw [if_pos (decide_eq_true c), if_pos (hk.2 ⟨rfl, c⟩)]
      · rw [if_neg (by simpa using c), if_neg (fun k => c (hk.1 k).2)]) (by unfold m_i_IsValidHistory_l0; simp)
  unfold m_s_IsValidHistory m_i_IsValidHistory
  rw [s_in, s_in, i_in, i_in, ew]; simp only [Option.bind_some]
  by_cases c1 : (1 : Int) ≤ (h.2.length : Int) ∧ (h.2.length : Int) ≤ 8
  · by_cases c2 : 1 ≤ h.1 ∧ h.1 ≤ 1000 - (h.2.length : Int)
    · rw [decide_eq_true c1, decide_eq_true c2]; simp only [if_true]
      rcases ks with ⟨es, k1⟩ | ⟨es, k1⟩ <;> rcases ki with ⟨ei, k2⟩ | ⟨ei, k2⟩
      · rw [bindL_brk es, bindL_brk ei]
        exact ⟨true, rfl, rfl, fun _ => ⟨by omega, c2⟩⟩
      · exact absurd k1 k2
      · exact absurd k2 k1
      · rw [bindL_ret es, bindL_ret ei]
        exact ⟨false, rfl, rfl, fun c => by cases c⟩
    · rw [decide_eq_true c1, decide_eq_false c2]; simp only [if_true, Bool.false_eq_true, if_false]
      rcases ks with ⟨es, k1⟩ | ⟨es, k1⟩
      · rw [bindL_brk es]; exact ⟨false, rfl, rfl, fun c => by cases c⟩
      · rw [bindL_ret es]; exact ⟨false, rfl, rfl, fun c => by cases c⟩
  · rw [decide_eq_false c1]; simp only [Bool.false_eq_true, if_false]
    rcases ks with ⟨es, k1⟩ | ⟨es, k1⟩
    · rw [bindL_brk es]; exact ⟨false, rfl, rfl, fun c => by cases c⟩
    · rw [bindL_ret es]; exact ⟨false, rfl, rfl, fun c => by cases c⟩
def latV (h : HisT) : Int := h.1 + (h.2.length : Int) - 1
theorem latest_ok {h : HisT} (hs : m_s_IsValidHistory h = some true) (hi : m_i_IsValidHistory h = some true) (k : (1 ≤ h.2.length ∧ h.2.length ≤ 8) ∧ 1 ≤ h.1 ∧ h.1 ≤ 1000 - (h.2.length : Int)) : m_s_LatestVersion h = some (latV h) ∧ m_i_LatestVersion h = some (latV h) := by
  unfold m_s_LatestVersion m_i_LatestVersion latV
  have hs : m_s_IsValidHistory (h.1, h.2) = _ := hs
  have hi : m_i_IsValidHistory (h.1, h.2) = _ := hi
  rw [hs, hi]; simp only [Option.bind_some, if_true]
  rw [wrapI (n := h.1 + (h.2.length : Int)) (by omega) (by omega), wrapI (by omega) (by omega)]
  exact ⟨rfl, rfl⟩
end Go.Proofs.YtfkjjnddefojjaaGreatDoor.D
/- Automata copied. -/
set_option linter.unusedVariables false
set_option linter.unusedSimpArgs false
set_option linter.unnecessarySimpa false
set_option linter.unusedSectionVars false
set_option synthInstance.maxSize 20000
set_option synthInstance.maxHeartbeats 2000000
namespace Go.Proofs.YtfkjjnddefojjaaGreatDoor.D
open Go.RowKit

end Go.Proofs.YtfkjjnddefojjaaGreatDoor.D
/- Automata copied; queries asked for their automaton. -/
set_option linter.unusedVariables false
set_option linter.unusedSimpArgs false
set_option linter.unnecessarySimpa false
set_option linter.unusedSectionVars false
set_option synthInstance.maxSize 20000
set_option synthInstance.maxHeartbeats 2000000
namespace Go.Proofs.YtfkjjnddefojjaaGreatDoor.D
open Go.RowKit

end Go.Proofs.YtfkjjnddefojjaaGreatDoor.D
/- Engines: both programs hold the same ones for valid. -/
set_option linter.unusedVariables false
set_option linter.unusedSimpArgs false
set_option linter.unnecessarySimpa false
set_option linter.unusedSectionVars false
set_option synthInstance.maxSize 20000
set_option synthInstance.maxHeartbeats 2000000
namespace Go.Proofs.YtfkjjnddefojjaaGreatDoor.D
open Go.RowKit

end Go.Proofs.YtfkjjnddefojjaaGreatDoor.D
/- Registries copied. -/
set_option linter.unusedVariables false
set_option linter.unusedSimpArgs false
set_option linter.unnecessarySimpa false
set_option linter.unusedSectionVars false
set_option synthInstance.maxSize 20000
set_option synthInstance.maxHeartbeats 2000000
namespace Go.Proofs.YtfkjjnddefojjaaGreatDoor.D
open Go.RowKit

end Go.Proofs.YtfkjjnddefojjaaGreatDoor.D
/- Engines copied and compacted: both programs give the same. -/
set_option linter.unusedVariables false
set_option linter.unusedSimpArgs false
set_option linter.unnecessarySimpa false
set_option linter.unusedSectionVars false
set_option synthInstance.maxSize 20000
set_option synthInstance.maxHeartbeats 2000000
namespace Go.Proofs.YtfkjjnddefojjaaGreatDoor.D
open Go.RowKit

theorem s_copyH (h : HisT) (hh : Data.sm h) : m_s_l7Copy h = some h := by
  obtain ⟨hl, hs⟩ := sm_list hh.2
  have e := loopM_at (f := m_s_l7Copy_l0 h) (fun i => ((i : Int), h.1, h.2.take i)) h.2.length (fun i hi => by
    have e : m_s_l3Copy (h.2[i].1, h.2[i].2) = some h.2[i] := s_copyG h.2[i] (hs _ (List.getElem_mem hi))
    have hx : ∀ z : GrT, appI 48 (h.2.take i) [z] = some (h.2.take i ++ [z]) := fun z => appI_ok (by rw [List.length_take]; simp only [List.length_cons, List.length_nil]; omega)
    unfold m_s_l7Copy_l0
    simp only []
    rw [lt_nat hi, if_pos rfl, getI_nat hi]
    simp only [Option.bind_some]
    rw [e]
    simp only [Option.bind_some]
    rw [hx, wrap_succ (by omega), List.take_succ_eq_append_getElem hi]; rfl) (by
    unfold m_s_l7Copy_l0
    simp only []
    rw [lt_self]; rfl) (fuelUp _ (by omega))
  rw [List.take_length] at e
  have e : loopM (m_s_l7Copy_l0 h) FUEL (0, h.1, []) = _ := e
  unfold m_s_l7Copy
  rw [bindL_brk e]
theorem i_copyH (h : HisT) (hh : Data.sm h) : m_i_copyHistory h = some h := by
  obtain ⟨hl, hs⟩ := sm_list hh.2
  have e := loopM_at (f := m_i_copyHistory_l0 h) (fun i => ((i : Int), h.1, h.2.take i)) h.2.length (fun i hi => by
    have e : m_i_copyGraph (h.2[i].1, h.2[i].2) = some h.2[i] := i_copyG h.2[i] (hs _ (List.getElem_mem hi))
    have hx : ∀ z : GrT, appI 48 (h.2.take i) [z] = some (h.2.take i ++ [z]) := fun z => appI_ok (by rw [List.length_take]; simp only [List.length_cons, List.length_nil]; omega)
    unfold m_i_copyHistory_l0
    simp only []
    rw [lt_nat hi, if_pos rfl, getI_nat hi]
    simp only [Option.bind_some]
    rw [e]
    simp only [Option.bind_some]
    rw [hx, wrap_succ (by omega), List.take_succ_eq_append_getElem hi]; rfl) (by
    unfold m_i_copyHistory_l0
    simp only []
    rw [lt_self]; rfl) (fuelUp _ (by omega))
  rw [List.take_length] at e
  have e : loopM (m_i_copyHistory_l0 h) FUEL (0, h.1, []) = _ := e
  unfold m_i_copyHistory
  rw [bindL_brk e]
theorem sm_drop {α : Type} [Data α] {l : List α} (h : Data.sm l) (n : Nat) : Data.sm (l.drop n) :=
  ⟨by have := (sm_list h).1; rw [List.length_drop]; omega, fun x hx => (sm_list h).2 x (List.mem_of_mem_drop hx)⟩
end Go.Proofs.YtfkjjnddefojjaaGreatDoor.D
/- A query put into a registry. -/
set_option linter.unusedVariables false
set_option linter.unusedSimpArgs false
set_option linter.unnecessarySimpa false
set_option linter.unusedSectionVars false
set_option synthInstance.maxSize 20000
set_option synthInstance.maxHeartbeats 2000000
namespace Go.Proofs.YtfkjjnddefojjaaGreatDoor.D
open Go.RowKit

theorem sm_ins {α : Type} [Data α] {xs : List α} {y : α} (h : Data.sm xs) (hy : Data.sm y) (i : Nat) (hl : xs.length ≤ 1048575) : Data.sm (xs.take i ++ ([y] ++ xs.drop i)) := by
  obtain ⟨h1, h2⟩ := sm_list h
  refine ⟨?_, fun x hx => ?_⟩
  · simp only [List.length_append, List.length_take, List.length_drop, List.length_cons, List.length_nil]; omega
  · rcases List.mem_append.1 hx with hx | hx
    · exact h2 _ (List.mem_of_mem_take hx)
    · rcases List.mem_append.1 hx with hx | hx
      · rw [List.mem_singleton.1 hx]; exact hy
      · exact h2 _ (List.mem_of_mem_drop hx)
end Go.Proofs.YtfkjjnddefojjaaGreatDoor.D
/- A query taken out of a registry. -/
set_option linter.unusedVariables false
set_option linter.unusedSimpArgs false
set_option linter.unnecessarySimpa false
set_option linter.unusedSectionVars false
set_option synthInstance.maxSize 20000
set_option synthInstance.maxHeartbeats 2000000
namespace Go.Proofs.YtfkjjnddefojjaaGreatDoor.D
open Go.RowKit

theorem sm_del {α : Type} [Data α] {xs : List α} (h : Data.sm xs) (i j : Nat) (hj : i ≤ j) : Data.sm (xs.take i ++ xs.drop j) := by
  obtain ⟨h1, h2⟩ := sm_list h
  refine ⟨?_, fun x hx => ?_⟩
  · simp only [List.length_append, List.length_take, List.length_drop]; omega
  · rcases List.mem_append.1 hx with hx | hx
    · exact h2 _ (List.mem_of_mem_take hx)
    · exact h2 _ (List.mem_of_mem_drop hx)
end Go.Proofs.YtfkjjnddefojjaaGreatDoor.D
/- Batches applied to graphs and histories: both programs give the same. -/
set_option linter.unusedVariables false
set_option linter.unusedSimpArgs false
set_option linter.unnecessarySimpa false
set_option linter.unusedSectionVars false
set_option synthInstance.maxSize 20000
set_option synthInstance.maxHeartbeats 2000000
namespace Go.Proofs.YtfkjjnddefojjaaGreatDoor.D
open Go.RowKit

theorem eidx_both (g : GrT) (id : Int) (hl : g.2.length ≤ 1048576) : ∃ k : Int, m_s_EdgeIndex g id = some k ∧ m_i_EdgeIndex g id = some k ∧ ((k = -1 ∧ ∀ e ∈ g.2, e.1 ≠ id) ∨ ∃ (i : Nat) (hi : i < g.2.length), k = (i : Int) ∧ g.2[i].1 = id) := by
  have hs := find_go (f := m_s_EdgeIndex_l0 g id) g.2 (fun u => u.1 == id) (fun i => (i : Int)) (by omega) (fun i hi => by
    unfold m_s_EdgeIndex_l0
    rw [lt_nat hi, if_pos rfl, getI_nat hi]
    simp only [Option.bind_some, wrap_succ (show i < 9223372036854775807 by omega)]
    split <;> rfl) (by
    unfold m_s_EdgeIndex_l0
    rw [lt_self]; rfl)
  have e2 : m_g_slices_IndexFunc_S_Edge_Edge_l0 g.2 (fun a0 => m_i_EdgeIndex_1 a0 id) = m_s_EdgeIndex_l0 g id := by
    funext s; rfl
  unfold m_s_EdgeIndex m_i_EdgeIndex m_g_slices_IndexFunc_S_Edge_Edge
  rw [e2]
  rcases hs with ⟨i, hi1, h1, h2, e1⟩ | ⟨h1, e1⟩
  · rw [bindL_ret e1]
    exact ⟨_, rfl, rfl, .inr ⟨i, hi1, rfl, by simpa using h1⟩⟩
  · rw [bindL_brk e1]
    exact ⟨_, rfl, rfl, .inl ⟨rfl, fun e he => by simpa using h1 e he⟩⟩
theorem ehas_i (l : List (Int × Int × Int × Int)) (e : Int × Int × Int × Int) (hl : l.length ≤ 1048576) : m_g_slices_Contains_S_Edge_Edge l e = some (decide (e ∈ l)) := by
  have k : ∀ x : Int × Int × Int × Int, ((e.1 == x.1) && ((e.2.1 == x.2.1) && ((e.2.2.1 == x.2.2.1) && ((e.2.2.2 == x.2.2.2) && true)))) = decide (e = x) := fun x => by
    obtain ⟨a, b, c, d⟩ := e
    obtain ⟨a', b', c', d'⟩ := x
    rw [Bool.eq_iff_iff]; simp
  have hs := find_go (f := m_g_slices_Index_S_Edge_Edge_l0 l e) l (fun u => decide (e = u)) (fun i => (i : Int)) (by omega) (fun i hi => by
    unfold m_g_slices_Index_S_Edge_Edge_l0
    rw [lt_nat hi, if_pos rfl, getI_nat hi]
    simp only [Option.bind_some, k, wrap_succ (show i < 9223372036854775807 by omega)]
    split <;> rfl) (by
    unfold m_g_slices_Index_S_Edge_Edge_l0
    rw [lt_self]; rfl)
  unfold m_g_slices_Contains_S_Edge_Edge m_g_slices_Index_S_Edge_Edge
  have el : m_g_slices_Index_S_Edge_Edge_l0 l (e.1, e.2.1, e.2.2.1, e.2.2.2) = m_g_slices_Index_S_Edge_Edge_l0 l e := rfl
  rw [el]
  rcases hs with ⟨i, hi1, h1, h2, e1⟩ | ⟨h1, e1⟩
  · rw [bindL_ret e1]
    simp only [Option.bind_some]
    have : e ∈ l := by
      have := of_decide_eq_true h1
      rw [this]; exact List.getElem_mem hi1
    rw [decide_eq_true this]; simp
  · rw [bindL_brk e1]
    simp only [Option.bind_some]
    have : ¬ e ∈ l := fun h => by simpa using h1 e h
    rw [decide_eq_false this]; rfl
theorem eok_same (g : GrT) (e : Int × Int × Int × Int) : m_s_l3Edge g e = m_i_edgeOk e (g.1.length : Int) := by
  unfold m_s_l3Edge m_i_edgeOk
  simp only [s_in, i_in, Option.bind_some]
theorem eins_both (x : GrT) (hx : Data.sm x) (e : Int × Int × Int × Int) : ∃ r : GrT × Bool, m_s_InsertEdge x e = some r ∧ m_i_InsertEdge x e = some r ∧ Data.sm r.1 := by
  obtain ⟨h1, h1'⟩ := sm_list hx.1
  obtain ⟨h2, h2'⟩ := sm_list hx.2
  obtain ⟨b, ev, kv⟩ := i_validG x h1 h2
  obtain ⟨k, k1, k2, -⟩ := eidx_both x e.1 h2
  have eo := i_edge e (n := x.1.length) h1
  unfold m_s_InsertEdge m_i_InsertEdge
  simp only [peta, validG_eq, ev, s_copyG x hx, i_copyG x hx, eok_same, eo, k1, k2, Option.bind_some]
  cases b with
  | false => exact ⟨(x, false), rfl, rfl, hx⟩
  | true =>
    have G := kv rfl
    have g12 := G.m
    simp only [if_true]
    by_cases c1 : decide (edgeP e (x.1.length : Int)) = true
    · by_cases c2 : decide (k ≥ 0) = true
      · simp only [if_pos c1, if_pos c2]; exact ⟨(x, false), rfl, rfl, hx⟩
      · by_cases c3 : ((x.2.length : Int) == 12) = true
        · simp only [if_pos c1, if_neg c2, if_pos c3]; exact ⟨(x, false), rfl, rfl, hx⟩
        · simp only [if_pos c1, if_neg c2, if_neg c3]
          have lp : ∃ i : Nat, i ≤ x.2.length ∧ loopM (m_s_InsertEdge_l0 x e) FUEL 0 = some (.brk (i : Int)) := by
            obtain ⟨o, eo, i, hi, rfl⟩ := loopM_go (f := m_s_InsertEdge_l0 x e) (fun i s => s = (i : Int)) (fun o => ∃ i : Nat, i ≤ x.2.length ∧ o = .brk (i : Int)) x.2.length (fun i s hi hI => by
              subst hI
              unfold m_s_InsertEdge_l0
              by_cases h1 : i < x.2.length
              · simp only [lt_nat h1, if_true, getI_nat h1, Option.bind_some, wrap_succ (show i < 9223372036854775807 by omega)]
                by_cases h2 : x.2[i].1 < e.1
                · exact .inl ⟨h1, _, by simp [h2], rfl⟩
                · exact .inr ⟨.brk (i : Int), by simp [h2], (fun s' e => by cases e), i, hi, rfl⟩
              · obtain rfl : i = x.2.length := by omega
                exact .inr ⟨.brk (x.2.length : Int), by simp only [lt_self, Bool.false_eq_true, if_false], (fun s' e => by cases e), _, hi, rfl⟩) (s := 0) rfl (fuelUp _ (by omega))
            exact ⟨i, hi, eo⟩
          obtain ⟨i, hi, l1⟩ := lp
          have l2 : loopM (m_i_InsertEdge_l0 e x) FUEL 0 = some (.brk (i : Int)) := by
            rw [← l1]; congr 1
          simp only [l1, l2, bindL]
          have hs := sm_ins (y := e) hx.2 ⟨trivial, trivial, trivial, trivial⟩ i (by omega)
          have q1 : (chk (0 ≤ (i : Int) ∧ (i : Int) ≤ (x.2.length : Int))) = some () := if_pos (by omega)
          have a0 : appI 8 ([] : List Int) x.1 = some x.1 := by rw [appI_ok (by simp only [List.length_nil]; omega)]; rfl
          have a1 : appI 32 ([] : List (Int × Int × Int × Int)) (x.2.take i) = some (x.2.take i) := by rw [appI_ok (by simp only [List.length_nil, List.length_take]; omega)]; rfl
          have a2 : appI 32 (x.2.take i) [e] = some (x.2.take i ++ [e]) := appI_ok (by simp only [List.length_take, List.length_cons, List.length_nil]; omega)
          have a3 : appI 32 (x.2.take i ++ [e]) (x.2.drop i) = some (x.2.take i ++ ([e] ++ x.2.drop i)) := by
            rw [appI_ok (by simp only [List.length_append, List.length_take, List.length_drop, List.length_cons, List.length_nil]; omega), List.append_assoc]
          have a5 : m_g_slices_Insert_S_Edge_Edge x.2 (i : Int) [e] = some (x.2.take i ++ ([e] ++ x.2.drop i), [e]) := by
            unfold m_g_slices_Insert_S_Edge_Edge R.insI
            have : (chk (0 ≤ (i : Int) ∧ (i : Int) ≤ (x.2.length : Int) ∧ [e].length = 1 ∧ 1 ≤ 32 ∧ (x.2.length + 1) * 32 ≤ 140737488355328)) = some () := if_pos ⟨by omega, by omega, rfl, by omega, by omega⟩
            rw [this]; rfl
          simp only [q1, Option.bind_some, Int.toNat_natCast, a0, a1, a2, a3, a5]
          exact ⟨_, rfl, rfl, hx.1, hs⟩
    · simp only [if_neg c1]; exact ⟨(x, false), rfl, rfl, hx⟩
theorem edel_both (x : GrT) (hx : Data.sm x) (id : Int) : ∃ r : GrT × Bool, m_s_DeleteEdge x id = some r ∧ m_i_DeleteEdge x id = some r ∧ Data.sm r.1 ∧ (m_i_IsValidGraph x = some false → r.2 = false) := by
  obtain ⟨h1, h1'⟩ := sm_list hx.1
  obtain ⟨h2, h2'⟩ := sm_list hx.2
  obtain ⟨b, ev, kv⟩ := i_validG x h1 h2
  obtain ⟨k, k1, k2, hk⟩ := eidx_both x id h2
  unfold m_s_DeleteEdge m_i_DeleteEdge
  simp only [peta, validG_eq, ev, s_copyG x hx, i_copyG x hx, k1, k2, Option.bind_some]
  by_cases c : decide (k < 0) = true
  · simp only [if_pos c]
    cases b with
    | false => exact ⟨(x, false), rfl, rfl, hx, fun _ => rfl⟩
    | true => exact ⟨(x, false), rfl, rfl, hx, fun _ => rfl⟩
  · simp only [if_neg c]
    cases b with
    | false => exact ⟨(x, false), rfl, rfl, hx, fun _ => rfl⟩
    | true =>
      rcases hk with ⟨rfl, -⟩ | ⟨i, hi, rfl, -⟩
      · exact absurd rfl c
      · have hw : IntKind.i64.wrap ((i : Int) + 1) = ((i + 1 : Nat) : Int) := wrap_succ (by omega)
        have c1 : (0 : Int) ≤ (i : Int) ∧ (i : Int) ≤ (x.2.length : Int) := by omega
        have c2 : (0 : Int) ≤ ((i + 1 : Nat) : Int) ∧ ((i + 1 : Nat) : Int) ≤ (x.2.length : Int) := by omega
        have c3 : (0 : Int) ≤ (i : Int) ∧ (i : Int) ≤ ((i + 1 : Nat) : Int) ∧ ((i + 1 : Nat) : Int) ≤ (x.2.length : Int) := by omega
        have q1 : (chk (0 ≤ (i : Int) ∧ (i : Int) ≤ (x.2.length : Int))) = some () := if_pos c1
        have q2 : (chk (0 ≤ ((i + 1 : Nat) : Int) ∧ ((i + 1 : Nat) : Int) ≤ (x.2.length : Int))) = some () := if_pos c2
        have q3 : (chk (0 ≤ (i : Int) ∧ (i : Int) ≤ ((i + 1 : Nat) : Int) ∧ ((i + 1 : Nat) : Int) ≤ (x.2.length : Int))) = some () := if_pos c3
        have a0 : appI 8 ([] : List Int) x.1 = some x.1 := by rw [appI_ok (by simp only [List.length_nil]; omega)]; rfl
        have a1 : appI 32 ([] : List (Int × Int × Int × Int)) (x.2.take i) = some (x.2.take i) := by rw [appI_ok (by simp only [List.length_nil, List.length_take]; omega)]; rfl
        have a2 : appI 32 (x.2.take i) (x.2.drop (i + 1)) = some (x.2.take i ++ x.2.drop (i + 1)) := appI_ok (by simp only [List.length_take, List.length_drop]; omega)
        have a4 : m_g_slices_Delete_S_Edge_Edge x.2 (i : Int) ((i + 1 : Nat) : Int) = some (x.2.take i ++ x.2.drop (i + 1)) := by
          unfold m_g_slices_Delete_S_Edge_Edge R.delI
          rw [q3]; rfl
        simp only [if_true, hw, q1, q2, Option.bind_some, Int.toNat_natCast, a0, a1, a2, a4]
        exact ⟨_, rfl, rfl, ⟨hx.1, sm_del hx.2 i (i + 1) (by omega)⟩, fun c => by simp at c⟩
theorem step_both (g : GrT) (hg : Data.sm g) (b : List ChT) (hb : b.length ≤ 6) {i : Nat} (hi : i < b.length) (x : GrT) (hx : Data.sm x) : m_s_l6Apply_l0 g b ((i : Int), x) = m_i_ApplyBatch_l0 g b ((i : Int), x) ∧ (m_i_ApplyBatch_l0 g b ((i : Int), x) = some (.ret (g, false)) ∨ ∃ y : GrT, Data.sm y ∧ m_i_ApplyBatch_l0 g b ((i : Int), x) = some (.nxt (((i + 1 : Nat) : Int), y))) := by
  have h2 := (sm_list hx.2).1
  obtain ⟨r, r1, r2, r3⟩ := eins_both x hx b[i].2
  obtain ⟨d, d1, d2, d3, d4⟩ := edel_both x hx b[i].2.1
  obtain ⟨k, k1, k2, hk⟩ := eidx_both x b[i].2.1 h2
  obtain ⟨v, ev, kv⟩ := i_validG x (sm_list hx.1).1 h2
  have hc := ehas_i x.2 b[i].2 h2
  have hw : IntKind.i64.wrap ((i : Int) + 1) = ((i + 1 : Nat) : Int) := wrap_succ (by omega)
  unfold m_s_l6Apply_l0 m_i_ApplyBatch_l0
  simp only [peta, lt_nat hi, if_true, getI_nat hi, Option.bind_some, if_pos (decide_eq_true (show (i : Int) ≤ 6 by omega)), r1, r2, k1, d1, d2, hc, s_copyG g hg, i_copyG g hg, hw]
  generalize b[i] = ch at *
  by_cases c : ch.1 = true
  · simp only [if_pos c]
    by_cases c2 : r.2 = true
    · simp only [if_pos c2, Option.bind_some, bindJ]
      exact ⟨trivial, .inr ⟨_, r3, rfl⟩⟩
    · simp only [if_neg c2, Option.bind_some, bindJ]
      exact ⟨trivial, .inl trivial⟩
  · simp only [if_neg c]
    rcases hk with ⟨rfl, hn⟩ | ⟨j, hj, rfl, hid⟩
    · have hnot : ¬ ch.2 ∈ x.2 := fun h => hn _ h rfl
      rw [if_pos (by decide), if_neg (by simpa using hnot)]
      simp only [Option.bind_some, bindJ]
      exact ⟨rfl, .inl rfl⟩
    · rw [if_neg (by simp), getI_nat hj]
      simp only [Option.bind_some]
      have eb : ((x.2[j].1 == ch.2.1) && ((x.2[j].2.1 == ch.2.2.1) && ((x.2[j].2.2.1 == ch.2.2.2.1) && ((x.2[j].2.2.2 == ch.2.2.2.2) && true)))) = decide (x.2[j] = ch.2) := by
        generalize x.2[j] = u
        obtain ⟨a, b, c, d⟩ := u
        obtain ⟨t, a', b', c', d'⟩ := ch
        rw [Bool.eq_iff_iff]; simp
      rw [eb]
      by_cases ce : x.2[j] = ch.2
      · have hin : ch.2 ∈ x.2 := ce ▸ List.getElem_mem hj
        rw [if_pos (decide_eq_true ce), if_pos (decide_eq_true hin)]
        by_cases c2 : d.2 = true
        · simp only [if_pos c2, Option.bind_some, bindJ]
          exact ⟨trivial, .inr ⟨_, d3, rfl⟩⟩
        · simp only [if_neg c2, Option.bind_some, bindJ]
          exact ⟨trivial, .inl trivial⟩
      · rw [if_neg (by simpa using ce)]
        by_cases hin : ch.2 ∈ x.2
        · -- two edges of one number: the graph is not valid
          have hv : v = false := by
            cases v with
            | false => rfl
            | true =>
              exfalso
              have G := kv rfl
              obtain ⟨m, hm, em⟩ := List.getElem_of_mem hin
              have e1 : nth x.2 (m : Int) = x.2[m] := nth_nat hm
              have e2 : nth x.2 (j : Int) = x.2[j] := nth_nat hj
              rcases Nat.lt_trichotomy m j with q | q | q
              · have := G.lt q hj
                rw [e1, e2, em, hid] at this; omega
              · subst q; exact ce em
              · have := G.lt q hm
                rw [e1, e2, em, hid] at this; omega
          subst hv
          have c2 : ¬ d.2 = true := by rw [d4 ev]; decide
          rw [if_pos (decide_eq_true hin)]
          simp only [if_neg c2, Option.bind_some, bindJ]
          exact ⟨trivial, .inl trivial⟩
        · rw [if_neg (by simpa using hin)]
          simp only [Option.bind_some, bindJ]
          exact ⟨rfl, .inl rfl⟩
theorem apply_both (g : GrT) (hg : Data.sm g) (b : List ChT) : ∃ r : GrT × Bool, m_s_ApplyBatch g b = some r ∧ m_i_ApplyBatch g b = some r ∧ Data.sm r.1 := by
  obtain ⟨h1, h1'⟩ := sm_list hg.1
  obtain ⟨v, ev, kv⟩ := i_validG g h1 (sm_list hg.2).1
  unfold m_s_ApplyBatch m_i_ApplyBatch m_s_l6Apply
  simp only [peta, validG_eq, ev, s_copyG g hg, i_copyG g hg, Option.bind_some]
  cases v with
  | false => exact ⟨(g, false), rfl, rfl, hg⟩
  | true =>
    simp only [if_true]
    by_cases c : decide ((b.length : Int) > 6) = true
    · simp only [if_pos c]; exact ⟨(g, false), rfl, rfl, hg⟩
    · simp only [if_neg c]
      have hb : b.length ≤ 6 := by
        rw [decide_eq_true_eq] at c; omega
      have hend : ∀ x : GrT, m_i_ApplyBatch_l0 g b ((b.length : Int), x) = some (.brk ((b.length : Int), x)) := fun x => by
        unfold m_i_ApplyBatch_l0
        simp only []
        rw [lt_self]; rfl
      have hend2 : ∀ x : GrT, m_s_l6Apply_l0 g b ((b.length : Int), x) = some (.brk ((b.length : Int), x)) := fun x => by
        unfold m_s_l6Apply_l0
        simp only []
        rw [lt_self]; rfl
      have same : loopM (m_s_l6Apply_l0 g b) FUEL (0, g) = loopM (m_i_ApplyBatch_l0 g b) FUEL (0, g) := by
        refine loopM_same (f := m_i_ApplyBatch_l0 g b) (g := m_s_l6Apply_l0 g b) (fun i s => ∃ x : GrT, s = ((i : Int), x) ∧ Data.sm x ∧ i ≤ b.length) (fun i s hI => ?_) FUEL 0 (0, g) ⟨g, rfl, hg, Nat.zero_le _⟩
        obtain ⟨x, rfl, hx, hi⟩ := hI
        by_cases h : i < b.length
        · obtain ⟨a1, a2⟩ := step_both g hg b hb h x hx
          refine ⟨a1, fun s' hs' => ?_⟩
          rcases a2 with a2 | ⟨y, hy, a2⟩
          · rw [a2] at hs'; simp at hs'
          · rw [a2] at hs'
            obtain rfl := Option.some.inj hs' |> Out.nxt.inj
            exact ⟨y, rfl, hy, h⟩
        · obtain rfl : i = b.length := by omega
          exact ⟨by rw [hend, hend2], fun s' hs' => by rw [hend] at hs'; simp at hs'⟩
      obtain ⟨o, e, hQ⟩ := loopM_go (f := m_i_ApplyBatch_l0 g b) (fun i s => ∃ x : GrT, s = ((i : Int), x) ∧ Data.sm x) (fun o => o = .ret (g, false) ∨ ∃ (n : Int) (x : GrT), o = .brk (n, x) ∧ Data.sm x) b.length (fun i s hi hI => by
        obtain ⟨x, rfl, hx⟩ := hI
        by_cases h : i < b.length
        · obtain ⟨-, a2⟩ := step_both g hg b hb h x hx
          rcases a2 with a2 | ⟨y, hy, a2⟩
          · exact .inr ⟨_, a2, fun s' h => (by simp at h), .inl rfl⟩
          · exact .inl ⟨h, _, a2, y, rfl, hy⟩
        · obtain rfl : i = b.length := by omega
          exact .inr ⟨_, hend x, fun s' h => (by simp at h), .inr ⟨_, x, rfl, hx⟩⟩) (s := (0, g)) ⟨g, rfl, hg⟩ (fuelUp _ (by omega))
      rw [same, e]
      rcases hQ with rfl | ⟨n, x, rfl, hx⟩
      · exact ⟨_, rfl, rfl, hg⟩
      · exact ⟨_, rfl, rfl, hx⟩
theorem append_both (h : HisT) (hh : Data.sm h) (b : List ChT) : ∃ r : HisT × Bool, m_s_AppendBatch h b = some r ∧ m_i_AppendBatch h b = some r ∧ Data.sm r.1 ∧ (r.2 = false → r.1 = h) := by
  obtain ⟨v, es, ei, k⟩ := hist_both h hh
  cases v with
  | false =>
    unfold m_s_AppendBatch m_i_AppendBatch m_i_LatestVersion
    simp only [peta, s_copyH h hh, i_copyH h hh, es, ei, Option.bind_some]
    exact ⟨(h, false), rfl, rfl, hh, fun _ => rfl⟩
  | true =>
    have kk := k rfl
    obtain ⟨l1, l2⟩ := latest_ok es ei kk
    have hlat : ¬ (latV h == 0) = true := by
      rw [beq_iff_eq]; unfold latV; omega
    unfold m_s_AppendBatch m_i_AppendBatch
    simp only [peta, s_copyH h hh, i_copyH h hh, es, l1, l2, Option.bind_some, if_true, if_neg hlat]
    by_cases c : (latV h == 999) = true
    · simp only [if_pos c]; exact ⟨(h, false), rfl, rfl, hh, fun _ => rfl⟩
    · simp only [if_neg c]
      have hm := (sm_list hh.2).2 _ (nth_mem (xs := h.2) (i := (h.2.length : Int) - 1) (by omega) (by omega))
      obtain ⟨r, r1, r2, r3⟩ := apply_both _ hm b
      rw [wrap_pred (by omega), getI_nth (xs := h.2) (by omega) (by omega)]
      simp only [Option.bind_some, peta, r1, r2]
      by_cases c2 : r.2 = true
      · simp only [if_pos c2]
        rw [appI_ok (by simp only [List.length_cons, List.length_nil]; omega)]
        simp only [Option.bind_some]
        have sa : Data.sm (h.2 ++ [r.1]) := ⟨by rw [List.length_append]; simp only [List.length_cons, List.length_nil]; omega, fun x hx => by
          rcases List.mem_append.1 hx with q | q
          · exact (sm_list hh.2).2 x q
          · obtain rfl := List.mem_singleton.1 q; exact r3⟩
        by_cases c3 : decide (((h.2 ++ [r.1]).length : Int) > 8) = true
        · have q1 : (chk ((0 : Int) ≤ 1 ∧ 1 ≤ ((h.2 ++ [r.1]).length : Int))) = some () := if_pos ⟨by omega, by rw [decide_eq_true_eq] at c3; omega⟩
          simp only [if_pos c3, q1, Option.bind_some]
          exact ⟨_, rfl, rfl, ⟨trivial, sm_drop sa 1⟩, fun h => by cases h⟩
        · simp only [if_neg c3, Option.bind_some]
          exact ⟨_, rfl, rfl, ⟨trivial, sa⟩, fun h => by cases h⟩
      · simp only [if_neg c2]; exact ⟨(h, false), rfl, rfl, hh, fun _ => rfl⟩
theorem lat_both (h : HisT) (hh : Data.sm h) : ∃ v : Int, m_s_LatestVersion h = some v ∧ m_i_LatestVersion h = some v := by
  obtain ⟨v, es, ei, k⟩ := hist_both h hh
  cases v with
  | false =>
    unfold m_s_LatestVersion m_i_LatestVersion
    simp only [peta, es, ei, Option.bind_some]
    exact ⟨0, rfl, rfl⟩
  | true => exact ⟨_, latest_ok es ei (k rfl)⟩
end Go.Proofs.YtfkjjnddefojjaaGreatDoor.D
/- The plain law of ReplayLog. -/
set_option linter.unusedVariables false
set_option linter.unusedSimpArgs false
set_option linter.unnecessarySimpa false
set_option linter.unusedSectionVars false
set_option synthInstance.maxSize 20000
set_option synthInstance.maxHeartbeats 2000000
namespace Go.Proofs.YtfkjjnddefojjaaGreatDoor.D
open Go.RowKit

abbrev RlT := List Int × List (List ChT) × Int
theorem replay_go {r : RlT} (hq : r.2.1.length = r.1.length) (hl : r.1.length ≤ 4000) : ∀ (d k f : Nat) (n : Int) (h : HisT), r.1.length = k + d → d < f → Data.sm h →
    ∃ (n' : Int) (h' : HisT), Data.sm h' ∧ bindL (loopM (m_s_ReplayLog_l0 r) f (n, (k : Int), r.2.1, h.1, h.2)) (fun x => some x) (fun s => some ((s.2.2.2.1, s.2.2.2.2), s.1)) = some (h', n') ∧ bindL (loopM (m_i_replay_l0 r) f (n, (k : Int), r.2.1, h.1, h.2)) (fun x => some x) (fun s => some (s.1, s.2.2.2.1, s.2.2.2.2)) = some (n', h'.1, h'.2)
  | d, k, f + 1, n, h, hd, hf, hh => by
    obtain ⟨L, l1, l2⟩ := lat_both h hh
    have l1 : m_s_LatestVersion (h.1, h.2) = _ := l1
    have l2 : m_i_LatestVersion (h.1, h.2) = _ := l2
    have e1 : m_i_ReplayLog_1 (h.1, h.2) = some (L, h.1, h.2) := by
      unfold m_i_ReplayLog_1
      simp only
      rw [l2]; rfl
    match d, hd with
    | 0, hd =>
      refine ⟨n, h, hh, ?_, ?_⟩
      · have : m_s_ReplayLog_l0 r (n, (k : Int), r.2.1, h.1, h.2) = some (.brk (n, (k : Int), r.2.1, h.1, h.2)) := by
          unfold m_s_ReplayLog_l0
          simp only
          rw [if_neg (by simp; omega)]
        rw [loopM, this]; rfl
      · have : m_i_replay_l0 r (n, (k : Int), r.2.1, h.1, h.2) = some (.brk (n, (k : Int), r.2.1, h.1, h.2)) := by
          unfold m_i_replay_l0
          simp only
          rw [if_neg (by simp; omega)]
        rw [loopM, this]; rfl
    | d + 1, hd =>
      have hw : IntKind.i64.wrap ((k : Int) + 1) = ((k + 1 : Nat) : Int) := wrap_succ (by omega)
      have c0 : decide ((k : Int) < (r.1.length : Int)) = true := decide_eq_true (by omega)
      have g1 : getI r.1 (k : Int) = some (nth r.1 (k : Int)) := getI_nth (by omega) (by omega)
      have g2 : getI r.2.1 (k : Int) = some (nth r.2.1 (k : Int)) := getI_nth (by omega) (by omega)
      generalize nth r.1 (k : Int) = v at g1
      generalize nth r.2.1 (k : Int) = b at g2
      obtain ⟨x, a1, a2, sx, hx⟩ := append_both h hh b
      have a1 : m_s_AppendBatch (h.1, h.2) b = _ := a1
      have a2 : m_i_AppendBatch (h.1, h.2) b = _ := a2
      have e2 : m_i_ReplayLog_2 b (h.1, h.2) = some (x.2, x.1.1, x.1.2) := by
        unfold m_i_ReplayLog_2
        simp only
        rw [a2]; rfl
      by_cases c1 : v ≤ L
      · obtain ⟨n', h', s', i1, i2⟩ := replay_go hq hl d (k + 1) f n h (by omega) (by omega) hh
        refine ⟨n', h', s', ?_, ?_⟩
        · have : m_s_ReplayLog_l0 r (n, (k : Int), r.2.1, h.1, h.2) = some (.nxt (n, ((k + 1 : Nat) : Int), r.2.1, h.1, h.2)) := by
            unfold m_s_ReplayLog_l0
            simp only [c0, if_true, g1, l1, Option.bind_some, decide_eq_true c1, bindJ, hw]
          rw [loopM, this]; exact i1
        · have : m_i_replay_l0 r (n, (k : Int), r.2.1, h.1, h.2) = some (.nxt (n, ((k + 1 : Nat) : Int), r.2.1, h.1, h.2)) := by
            unfold m_i_replay_l0
            simp only [c0, if_true, g1, e1, Option.bind_some, decide_eq_true c1, bindJ, hw]
          rw [loopM, this]; exact i2
      · have c1' : ¬ decide (v ≤ L) = true := by simpa using c1
        by_cases c2 : (v != IntKind.i64.wrap (L + 1)) = true
        · refine ⟨n, h, hh, ?_, ?_⟩
          · have : m_s_ReplayLog_l0 r (n, (k : Int), r.2.1, h.1, h.2) = some (.ret ((h.1, h.2), n)) := by
              unfold m_s_ReplayLog_l0
              simp only [c0, if_true, g1, l1, Option.bind_some, if_neg c1', g2, a1, if_pos c2, bindJ]
            rw [loopM, this]; rfl
          · have : m_i_replay_l0 r (n, (k : Int), r.2.1, h.1, h.2) = some (.brk (n, (k : Int), r.2.1, h.1, h.2)) := by
              unfold m_i_replay_l0
              simp only [c0, if_true, g1, e1, Option.bind_some, if_neg c1', if_pos c2, bindJ]
            rw [loopM, this]; rfl
        · by_cases c3 : x.2 = true
          · obtain ⟨n', h', s', i1, i2⟩ := replay_go hq hl d (k + 1) f (IntKind.i64.wrap (n + 1)) x.1 (by omega) (by omega) sx
            refine ⟨n', h', s', ?_, ?_⟩
            · have : m_s_ReplayLog_l0 r (n, (k : Int), r.2.1, h.1, h.2) = some (.nxt (IntKind.i64.wrap (n + 1), ((k + 1 : Nat) : Int), r.2.1, x.1.1, x.1.2)) := by
                unfold m_s_ReplayLog_l0
                simp only [c0, if_true, g1, l1, Option.bind_some, if_neg c1', g2, a1, if_neg c2, if_pos c3, bindJ, hw]
              rw [loopM, this]; exact i1
            · have : m_i_replay_l0 r (n, (k : Int), r.2.1, h.1, h.2) = some (.nxt (IntKind.i64.wrap (n + 1), ((k + 1 : Nat) : Int), r.2.1, x.1.1, x.1.2)) := by
                unfold m_i_replay_l0
                simp only [c0, if_true, g1, e1, Option.bind_some, if_neg c1', g2, e2, if_neg c2, if_pos c3, bindJ, hw]
              rw [loopM, this]; exact i2
          · have hxe := hx (by simpa using c3)
            refine ⟨n, h, hh, ?_, ?_⟩
            · have : m_s_ReplayLog_l0 r (n, (k : Int), r.2.1, h.1, h.2) = some (.ret ((h.1, h.2), n)) := by
                unfold m_s_ReplayLog_l0
                simp only [c0, if_true, g1, l1, Option.bind_some, if_neg c1', g2, a1, if_neg c2, if_neg c3, bindJ]
              rw [loopM, this]; rfl
            · have : m_i_replay_l0 r (n, (k : Int), r.2.1, h.1, h.2) = some (.brk (n, (k : Int), r.2.1, x.1.1, x.1.2)) := by
                unfold m_i_replay_l0
                simp only [c0, if_true, g1, e1, Option.bind_some, if_neg c1', g2, e2, if_neg c2, if_neg c3, bindJ]
              rw [loopM, this, hxe]; rfl
theorem replay_both (h : HisT) (hh : Data.sm h) (y : ByteArray) (hy : y.size ≤ 1048576) : ∃ x : HisT × Int, m_s_ReplayLog h y = some x ∧ m_i_ReplayLog h y = some x ∧ Data.sm x.1 := by
  obtain ⟨v, es, ei, -⟩ := hist_both h hh
  obtain ⟨l, rfl⟩ := mkB_ex y
  rw [mkB_size] at hy
  obtain ⟨r, q, n, s1, s2, -, hr, hok, -⟩ := scanlog_both l (by omega)
  obtain ⟨n', h', sh', i1, i2⟩ := replay_go (r := (r, q, (n : Int))) hok.1 hr r.length 0 FUEL 0 h (by show r.length = 0 + r.length; omega) (by unfold FUEL; omega) hh
  have i1 : bindL (loopM (m_s_ReplayLog_l0 (r, q, (n : Int))) FUEL (0, 0, q, h.1, h.2)) _ _ = _ := i1
  have i2 : bindL (loopM (m_i_replay_l0 (r, q, (n : Int))) FUEL (0, 0, q, h.1, h.2)) _ _ = _ := i2
  unfold m_s_ReplayLog m_i_ReplayLog m_i_replay
  simp only [peta]
  rw [s_copyH h hh, i_copyH h hh, es, ei, s1, s2]; simp only [Option.bind_some]
  cases v with
  | false => exact ⟨(h, 0), rfl, rfl, hh⟩
  | true =>
    refine ⟨(h', n'), ?_, ?_, sh'⟩
    · rw [if_pos rfl]; exact i1
    · rw [if_pos rfl, i2]; rfl
theorem lawReplayLog (x : HisT) (y : ByteArray) (hx : Data.lim x) (hy : Data.lim y) : m_w_FnExactReplayLog x y = some true := by
  unfold m_w_FnExactReplayLog
  simp only [peta]
  by_cases cy : (y.size : Int) > 1048576
  · rw [if_pos (decide_eq_true cy)]
  rw [if_neg (by simpa using cy)]
  obtain ⟨r1, e1, k1⟩ := z_szHistory x 1048576 hx (by decide) (by decide)
  rw [e1]; simp only [Option.bind_some]
  rcases k1 with k1 | ⟨k1, j1, s1⟩
  · rw [if_pos (decide_eq_true k1)]
  rw [if_neg (by simpa using k1)]
  obtain ⟨r, es, ei, sr⟩ := replay_both x s1 y (by omega)
  have b1 := nb_History x s1
  have b2 := nb_History r.1 sr
  have em1 : m_w_markHistory x 1 = _ := mk_History x s1 (k := 1) (by omega)
  have em2 : m_w_markHistory r.1 1 = _ := mk_History r.1 sr (k := 1) (by omega)
  have eh2 : m_w_heldHistory (r.1.1, (d_History r.1 1).2) 1 = _ := hd_History r.1 sr (k := 1) (by omega)
  simp only [t_toHistory x s1, es, ei, q_eqHistory r.1 r.1 sr sr, q_eqHistory x x s1 s1, Option.bind_some, peta, em1, em2, eh2, decide_true, if_true, ltzM, bne_self_eq_false, Bool.false_eq_true, if_false]
end Go.Proofs.YtfkjjnddefojjaaGreatDoor.D
/- The shelf's functions on strings laid at this program. -/
namespace Go.Proofs.YtfkjjnddefojjaaGreatDoor.R
open Go.Shelf
def laysMax_ren : Go.Shelf.Ren := ⟨fun | 146 => 75 | 221 => 87 | 268 => 99 | 138 => 100 | 143 => 101 | 195 => 110 | 197 => 111 | 218 => 112 | 219 => 113 | 260 => 125 | 217 => 74 | 225 => 126 | 224 => 127 | 267 => 128 | 266 => 86 | 314 => 138 | n => n, fun | 9 => 9 | 31 => 78 | 3 => 3 | 4 => 4 | 0 => 0 | 105 => 125 | 21 => 21 | 5 => 5 | 46 => 141 | 119 => 155 | 139 => 158 | 138 => 157 | 146 => 160 | 51 => 159 | n => n, fun | 1 => 0 | 3 => 3 | 4 => 4 | n => n⟩
theorem laysMax : Go.Proofs.LaysM.n146 Tryz.prog laysMax_ren := {
  mixed := by kernel_rfl
  f138 := Tryz.func100.trans (congrArg some (by kernel_rfl))
  f143 := Tryz.func101.trans (congrArg some (by kernel_rfl))
  f146 := Tryz.func75.trans (congrArg some (by kernel_rfl))
  f195 := Tryz.func110.trans (congrArg some (by kernel_rfl))
  f197 := Tryz.func111.trans (congrArg some (by kernel_rfl))
  f217 := Tryz.func74.trans (congrArg some (by kernel_rfl))
  f218 := Tryz.func112.trans (congrArg some (by kernel_rfl))
  f219 := Tryz.func113.trans (congrArg some (by kernel_rfl))
  f221 := Tryz.func87.trans (congrArg some (by kernel_rfl))
  f224 := Tryz.func127.trans (congrArg some (by kernel_rfl))
  f225 := Tryz.func126.trans (congrArg some (by kernel_rfl))
  f260 := Tryz.func125.trans (congrArg some (by kernel_rfl))
  f266 := Tryz.func86.trans (congrArg some (by kernel_rfl))
  f267 := Tryz.func128.trans (congrArg some (by kernel_rfl))
  f268 := Tryz.func99.trans (congrArg some (by kernel_rfl))
  f314 := Tryz.func138.trans (congrArg some (by kernel_rfl))
  t0 := Tryz.underlying0
  a0 := Tryz.isAgg0
  z0 := Tryz.sizeOf0
  v0 := Tryz.zeroValue0
  t3 := Tryz.underlying3
  a3 := Tryz.isAgg3
  z3 := Tryz.sizeOf3
  v3 := Tryz.zeroValue3
  t4 := Tryz.underlying4
  a4 := Tryz.isAgg4
  z4 := Tryz.sizeOf4
  v4 := Tryz.zeroValue4
  t5 := Tryz.underlying5
  a5 := Tryz.isAgg5
  z5 := Tryz.sizeOf5
  v5 := Tryz.zeroValue5
  t9 := Tryz.underlying9
  a9 := Tryz.isAgg9
  z9 := Tryz.sizeOf9
  v9 := Tryz.zeroValue9
  t21 := Tryz.underlying21
  a21 := Tryz.isAgg21
  z21 := Tryz.sizeOf21
  v21 := Tryz.zeroValue21
  t31 := Tryz.underlying78
  a31 := Tryz.isAgg78
  z31 := Tryz.sizeOf78
  v31 := Tryz.zeroValue78
  t46 := Tryz.underlying141
  a46 := Tryz.isAgg141
  z46 := Tryz.sizeOf141
  v46 := Tryz.zeroValue141
  t51 := Tryz.underlying159
  a51 := Tryz.isAgg159
  z51 := Tryz.sizeOf159
  v51 := Tryz.zeroValue159
  t105 := Tryz.underlying125
  a105 := Tryz.isAgg125
  z105 := Tryz.sizeOf125
  v105 := Tryz.zeroValue125
  t119 := Tryz.underlying155
  a119 := Tryz.isAgg155
  z119 := Tryz.sizeOf155
  t138 := Tryz.underlying157
  a138 := Tryz.isAgg157
  z138 := Tryz.sizeOf157
  v138 := Tryz.zeroValue157
  t139 := Tryz.underlying158
  a139 := Tryz.isAgg158
  z139 := Tryz.sizeOf158
  v139 := Tryz.zeroValue158
  t146 := Tryz.underlying160
  a146 := Tryz.isAgg160
  z146 := Tryz.sizeOf160
  v146 := Tryz.zeroValue160
  g1 := by kernel_rfl
  g3 := by kernel_rfl
  g4 := by kernel_rfl
  i0 := by kernel_rfl
  i3 := by kernel_rfl
  i4 := by kernel_rfl
  i5 := by kernel_rfl
  i9 := by kernel_rfl
  i21 := by kernel_rfl
  i31 := by kernel_rfl
  i46 := by kernel_rfl
  i51 := by kernel_rfl
  i105 := by kernel_rfl
  i138 := by kernel_rfl
  i139 := by kernel_rfl
  i146 := by kernel_rfl
  m1 := by kernel_rfl
  s1_3 := fun w h => Go.Proofs.cell_of_shapedOpen_int (zero := #[.int .i64 0]) (t := 3) h (of_decide_eq_true (by kernel_rfl)) (by kernel_rfl) rfl (by kernel_rfl) (by kernel_rfl) Tryz.underlying3
  m3 := by kernel_rfl
  m4 := by kernel_rfl }

end Go.Proofs.YtfkjjnddefojjaaGreatDoor.R
/- FnExactReplayLog: for every input the law returns true and changes nothing that was there. (Printed by genrow.py over the walk and the plain law.) -/
set_option linter.unusedVariables false
set_option linter.unusedSimpArgs false
set_option linter.unnecessarySimpa false
set_option maxRecDepth 100000
namespace Go.Proofs.YtfkjjnddefojjaaGreatDoor
open Go.ChangeShapes Go.WideShapes Go.ChangeAt Go.RowKit
namespace D
theorem op3 : Opens Tryz.prog 3 rInt := opens_int Tryz.underlying3
theorem op38 : Opens Tryz.prog 38 (rSlice 3 rInt) := opens_slice Tryz.underlying38 (by kernel_rfl) (by decide) op3
theorem op102 : Opens Tryz.prog 102 (rProd rInt (rProd rInt (rProd rInt rInt))) := by
  refine opens_struct Tryz.underlying102 (by kernel_rfl) ?_
  refine opens_next (R := rInt) (S := rProd (rInt) (rProd (rInt) (rInt))) rfl (by kernel_rfl) op3 ?_
  refine opens_next (R := rInt) (S := rProd (rInt) (rInt)) rfl (by kernel_rfl) op3 ?_
  refine opens_next (R := rInt) (S := rInt) rfl (by kernel_rfl) op3 ?_
  exact opens_last rfl (by kernel_rfl) op3
theorem op55 : Opens Tryz.prog 55 (rSlice 102 (rProd rInt (rProd rInt (rProd rInt rInt)))) := opens_slice Tryz.underlying55 (by kernel_rfl) (by decide) op102
theorem op57 : Opens Tryz.prog 57 (rProd (rSlice 3 rInt) (rSlice 102 (rProd rInt (rProd rInt (rProd rInt rInt))))) := by
  refine opens_struct Tryz.underlying57 (by kernel_rfl) ?_
  refine opens_next (R := rSlice 3 rInt) (S := rSlice 102 (rProd rInt (rProd rInt (rProd rInt rInt)))) rfl (by kernel_rfl) op38 ?_
  exact opens_last rfl (by kernel_rfl) op55
theorem op22 : Opens Tryz.prog 22 (rSlice 57 (rProd (rSlice 3 rInt) (rSlice 102 (rProd rInt (rProd rInt (rProd rInt rInt)))))) := opens_slice Tryz.underlying22 (by kernel_rfl) (by decide) op57
theorem op24 : Opens Tryz.prog 24 (rProd rInt (rSlice 57 (rProd (rSlice 3 rInt) (rSlice 102 (rProd rInt (rProd rInt (rProd rInt rInt))))))) := by
  refine opens_struct Tryz.underlying24 (by kernel_rfl) ?_
  refine opens_next (R := rInt) (S := rSlice 57 (rProd (rSlice 3 rInt) (rSlice 102 (rProd rInt (rProd rInt (rProd rInt rInt)))))) rfl (by kernel_rfl) op3 ?_
  exact opens_last rfl (by kernel_rfl) op22
theorem rdL24 {W : World} {base : Nat} {z : Value} {H : Type} {enc : TypeId × Value → H} {d : DataW H} {p : List MemPlace} (hv : Value.okWide Tryz.prog W .any base 24 z) (h : DataW.Trod enc Tryz.prog W 0 (fun _ => true) true 24 z d p) :
    ∃ (x : Int × (List ((List Int) × (List (Int × Int × Int × Int))))) (v0 : Value), z = .agg #[.int .i64 x.1, v0] ∧ Data.lim x ∧ (rSlice 57 (rProd (rSlice 3 rInt) (rSlice 102 (rProd rInt (rProd rInt (rProd rInt rInt)))))).rd (hp W) [v0] x.2 := by
  obtain ⟨fuel, hf⟩ := h
  obtain ⟨⟨cs⟩, rfl, -⟩ := okWide_struct Tryz.underlying24 hv
  obtain ⟨x, hx, hl⟩ := op24.out enc W _ _ _ hf
  have hx : (rProd rInt (rSlice 57 (rProd (rSlice 3 rInt) (rSlice 102 (rProd rInt (rProd rInt (rProd rInt rInt))))))).rd (hp W) cs x := hx
  obtain ⟨_, _, rfl, rfl, r0⟩ := hx
  obtain ⟨v0, rfl⟩ := one_cell r0 rfl
  exact ⟨x, v0, rfl, hl, r0⟩
theorem op9 : Opens Tryz.prog 9 rStr := opens_string Tryz.underlying9
theorem rdL9 {W : World} {base : Nat} {z : Value} {H : Type} {enc : TypeId × Value → H} {d : DataW H} {p : List MemPlace} (hv : Value.okWide Tryz.prog W .any base 9 z) (h : DataW.Trod enc Tryz.prog W 0 (fun _ => true) true 9 z d p) :
    ∃ (x : ByteArray), z = .string x ∧ Data.lim x := by
  obtain ⟨fuel, hf⟩ := h
  obtain ⟨n, rfl⟩ := okWide_string Tryz.underlying9 hv
  obtain ⟨x, hx, hl⟩ := op9.out enc W _ _ _ hf
  exact ⟨x, (List.cons.inj (show [_] = [_] from hx)).1, hl⟩
end D
open D (Data)
theorem change_shaped_and {H : Type} {enc : TypeId × Value → H} {a : Assume} {C : Checked} {os : Os} {f : FuncId} {fn : Func} {s : ChangeSpec} {conds : List PathCond} {apart fresh handsOn again : Bool} {X : World → Array Value → Prop}
    (hX : ∀ (w w' : World) (args : Array Value), w.heap = w'.heap → X w args → X w' args)
    (own : ownKnob C.prog.godebug = none) (started : os.Started) (noInit : C.prog.inits.idxOf? f = none) (hfn : C.prog.funcs[f]? = some fn)
    (witness : ∃ (w : World) (tape : Tape) (i : Input), w.os = os ∧ (w.forCall tape i).Shaped C.prog ∧ i.vars = [] ∧ Input.okWide C.prog (w.forCall tape i) .any w.heap.size f i ∧
      ((s.pre enc C.prog fn conds apart (w.forCall tape i).memory i.args ∧ X (w.forCall tape i).memory i.args) ∧ sizedMet enc C.prog fn (OpenSpec.ofChange s) apart (w.forCall tape i).memory i.args) ∧ a.holds C.prog (lone (Frame.enter C.prog f i.args .normal) [] (w.forCall tape i)))
    (contract : ∀ (W : World) (base : Nat) (args : Array Value) (ds gs : List (DataW H)) (before : List MemPlace),
      (∀ (j : Nat) t v, fn.params[j]? = some t → args[j]? = some v → Value.okWide C.prog W .any base t v) →
      DataW.Whole enc C.prog fn.params.toList s.vars apart W args.toList ds gs before → X W args → W.ShapedOpen C.prog →
      Calls C.prog f args W fun e W' => ∃ v, e = .returned v ∧ s.post enc C.prog fn apart fresh handsOn again W args v W') :
    ReturnsInHanded a C os f .any (fun w args => (s.pre enc C.prog fn conds apart w args ∧ X w args) ∧ sizedMet enc C.prog fn (OpenSpec.ofChange s) apart w args) (s.post enc C.prog fn apart fresh handsOn again) := by
  refine returnsInHanded_of_calls own started noInit witness ?_
  intro w tape i _ hsh _ hok hpre _
  obtain ⟨_, _, _, fn', hfn', _, _, _, _, hval⟩ := hok
  have e : fn' = fn := Option.some.inj (hfn'.symm.trans hfn)
  subst e
  obtain ⟨⟨⟨ds, gs, before, hw, hc⟩, hx⟩, _⟩ := hpre
  have hw' := DataW.Whole.of_heap (w' := w.forCall tape i) (by rfl) hw
  refine (contract (w.forCall tape i) w.heap.size i.args ds gs before hval hw' (hX (w.forCall tape i).memory (w.forCall tape i) _ rfl hx) hsh).mono fun e W' ⟨v, he, hp⟩ => ?_
  subst he
  exact ChangeSpec.post_blind hp
theorem rowErr (u : TypeId) (h : Tryz.prog.typeName? 3 u = some "*errors.errorString") : u = 164 :=
  typeName_ptr_named (nm := "errors.errorString") (by kernel_rfl) (by kernel_rfl) (by decide) u h
theorem layReplayLog {W : World} (h : laidMetH Tryz.prog Rows.fnExactReplayLogRow.laid W) (hsh : W.ShapedOpen Tryz.prog) : D.LayW Tryz.prog W := by
  rw [MakeChecks.laidMetH_plain _ _ _ (by kernel_rfl)] at h
  obtain ⟨a5, s5, hv5, -⟩ := laid_sentinel (g := 2) (ti := 112) (tp := 164) (te := 166) (ts := 9) (h.tail.tail.tail.tail) (by kernel_rfl) (by kernel_rfl) Tryz.underlying112 rowErr Tryz.underlying164 Tryz.underlying166 rfl rfl Tryz.underlying9 (by kernel_rfl) (by kernel_rfl)
  obtain ⟨a6, s6, hv6, -⟩ := laid_sentinel (g := 1) (ti := 112) (tp := 164) (te := 166) (ts := 9) (h.tail.tail.tail.tail.tail) (by kernel_rfl) (by kernel_rfl) Tryz.underlying112 rowErr Tryz.underlying164 Tryz.underlying166 rfl rfl Tryz.underlying9 (by kernel_rfl) (by kernel_rfl)
  have ht : Lib.TabIs Tryz.prog W "internal/strconv.uint64pow10" .u64 Lib.pow10Tab := Lib.tabIs_of_head (g := 5) (by kernel_rfl) (by kernel_rfl) Tryz.underlying168 Tryz.underlying142 (by kernel_rfl) (by kernel_rfl) (h.tail.tail)
  exact ⟨⟨0, (R.laysMax.s1_3 W hsh).imp fun m hm => ⟨by kernel_rfl, hm⟩⟩, ht, ⟨_, _, hv6⟩, ⟨_, _, hv5⟩⟩
theorem rowLReplayLog (W : World) (hL : laidMetH Tryz.prog Rows.fnExactReplayLogRow.laid W) (hsh : W.ShapedOpen Tryz.prog) (args : Array Value) (H : Type) (enc : TypeId × Value → H) (base : Nat) (ds gs : List (DataW H)) (before : List MemPlace)
    (hval : ∀ (j : Nat) t v, Tryz.f3.params[j]? = some t → args[j]? = some v → Value.okWide Tryz.prog W .any base t v)
    (hW : DataW.Whole enc Tryz.prog Tryz.f3.params.toList Rows.fnExactReplayLogSpec.vars false W args.toList ds gs before) :
    Calls Tryz.prog 3 args W fun e W' => ∃ v, e = .returned v ∧ Rows.fnExactReplayLogSpec.post enc Tryz.prog Tryz.f3 false true false false W args v W' := by
  have hW' := hW
  obtain ⟨p, q, hA, hV, rfl, hfz, hnd⟩ := hW
  rw [Tryz.params3] at hA hval
  obtain ⟨z0, vs0, d0, ds0, p0, q0, hargs, rfl, rfl, h0, r0⟩ := trodAll_cons hA
  obtain ⟨z1, vs1, d1, ds1, p1, q1, rfl, rfl, rfl, h1, r1⟩ := trodAll_cons r0
  obtain ⟨rfl, rfl, rfl⟩ := trodAll_nil r1
  obtain rfl : args = #[z0, z1] := by cases args; simp_all
  obtain ⟨rfl, rfl⟩ := trodVars_none hV
  obtain ⟨x0, v0_0, rfl, l0, r0_0⟩ := D.rdL24 (hval 0 _ _ rfl rfl) h0
  obtain ⟨x1, rfl, l1⟩ := D.rdL9 (hval 1 _ _ rfl rfl) h1
  have hc := D.c_w_FnExactReplayLog x0 x1 true (D.lawReplayLog x0 x1 l0 l1) (I := D.hp W) (w0 := W) v0_0 r0_0 (D.Lay.of (layReplayLog hL hsh)) W [] (D.St.init W)
  refine hc.mono fun e W' ⟨v, he, hv, hs⟩ => ?_
  subst he; subst hv
  exact ⟨_, rfl, law_post (f := Tryz.f3) (s := Rows.fnExactReplayLogSpec) 4 Tryz.underlying4 rfl (by kernel_rfl) rfl hW' rfl rfl rfl (D.St.below hs)⟩
set_option maxRecDepth 100000 in
theorem liftedLReplayLog (os : Os) (started : os.Started) (H : Type) (enc : TypeId × Value → H) :
    ReturnsInHanded {} Tryz.checked os 3 .any (fun w args => (Rows.fnExactReplayLogSpec.pre enc Tryz.prog Tryz.f3 [] false w args ∧ laidMetH Tryz.prog Rows.fnExactReplayLogRow.laid w) ∧ sizedMet enc Tryz.prog Tryz.f3 (OpenSpec.ofChange Rows.fnExactReplayLogSpec) false w args) (Rows.fnExactReplayLogSpec.post enc Tryz.prog Tryz.f3 false true false false) := by
  refine change_shaped_and (C := Tryz.checked) (X := fun w _ => laidMetH Tryz.prog Rows.fnExactReplayLogRow.laid w) (fun _ _ _ hh h => h.of_heap hh) own started (by kernel_rfl) Tryz.func3
    (ChangeSpec.witness_shaped (enc := enc) (C := Tryz.checked) (os := os) (X := fun w _ => laidMetH Tryz.prog Rows.fnExactReplayLogRow.laid w) false (World.laidAll Tryz.prog os Rows.fnExactReplayLogRow.laid) #[.agg #[.int .i64 0, .slice none 0 0], .string ⟨#[]⟩] 8 (World.laidAll_os _ _ _) (World.shaped_of_ZipB (by kernel_rfl) (by kernel_rfl)) (by kernel_rfl) (by kernel_rfl) (by kernel_rfl) (by rw [MakeChecks.laidMetH_plain _ _ _ (by kernel_rfl)]; exact laidMet_laidAll _ (by kernel_rfl) (by kernel_rfl))) ?_
  intro W base args ds gs before hval hW hL hsh
  exact rowLReplayLog W hL hsh args H enc base ds gs before hval hW
theorem holdsLReplayLog : Rows.FnExactReplayLogSaid :=
  OpenClaim.holds_of_wide 3 Tryz.f3 rfl rfl rfl rfl rfl rfl rfl ⟨rfl, rfl, rfl, rfl, rfl⟩ rfl rfl rfl rfl rfl (by kernel_rfl) Tryz.func3 closedLReplayLog
    (of_decide_eq_true (by kernel_rfl)) (by unfold Func.isWrapper; first | (rw [if_pos (by decide +kernel)]; kernel_rfl) | (rw [if_neg (by decide +kernel)]; exact ⟨rfl, rfl⟩))
    (fun os started H enc _ => liftedLReplayLog os started H enc)
theorem cardLReplayLog : Rows.FnExactReplayLogCardSaid :=
  Claim7.holds_tied_plain_at .later [] [.data, .data, .data, .data, .sentinel, .sentinel, .pinned] true (true, "f954505e4a17b4d7a053f54f81d5a1bee1a98e9bcd0ce9de83a2e0606073c4ba") true
    holdsLReplayLog (fun _ h => by cases h) (by kernel_rfl) (fun _ h => by cases h) fnExactReplayLog_row_tie rfl ⟨rfl, rfl⟩ kf4ReplayLog rfl
    (fun f fn hf hfn => by
      obtain rfl : f = 3 := Option.some.inj (kf1ReplayLog.symm.trans hf) |>.symm
      obtain rfl : fn = Tryz.f3 := (Option.some.inj (Tryz.func3.symm.trans hfn)).symm
      exact ⟨kf2ReplayLog, fun j t ht => by
        rw [Tryz.params3] at ht
        have hm : t ∈ [24, 9] := by simpa using Array.mem_of_getElem? ht
        have hall : ([24, 9].all fun u => !Tryz.prog.wantsStandIn u) = true := by kernel_rfl
        exact (show Tryz.prog.wantsStandIn t = false by simpa using List.all_eq_true.1 hall t hm)⟩)
    kf3ReplayLog
end Go.Proofs.YtfkjjnddefojjaaGreatDoor
