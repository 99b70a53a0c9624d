/-
  What a program's head says, out of its first words. Conditions: none, over any program.
-/
import Derived.ProofKit
import GoSem.Claim
import GoSem.ClaimJoined
import Derived.JoinedTies
set_option linter.all false
namespace Go.AL
open Go Go.RowKit

def sg (l : List Nat) : List Char := l.map Char.ofNat
def sp : Char := Char.ofNat 32
theorem ws_word : ∀ (l r : List Char), l.all (· != sp) = true → wordsSigns (l ++ sp :: r) = l :: wordsSigns r
  | [], r, _ => rfl
  | c :: l, r, h => by
    simp only [List.all_cons, Bool.and_eq_true, bne_iff_ne, ne_eq] at h
    have ih := ws_word l r h.2
    rw [List.cons_append]
    conv => lhs; unfold wordsSigns
    split
    · rename_i e; cases e
    · rename_i e; injection e with e _; exact absurd e h.1
    · rename_i c' r' _ e
      injection e with e1 e2
      subst e1; subst e2
      rw [ih]
def wHarness : List Char := sg [104, 97, 114, 110, 101, 115, 115]
def wCut : List Char := sg [99, 117, 116]
/-- a head: 'harness', a sum, 'cut', the rest. -/
structure Head (P : Program) (sum rest : List Char) : Prop where
  h : P.initOrder = String.ofList (wHarness ++ sp :: (sum ++ sp :: (wCut ++ sp :: rest)))
  hs : isSumSigns sum = true
  hn : sum.all (· != sp) = true
theorem Head.words {P : Program} {sum rest : List Char} (h : Head P sum rest) : behindMainWord (wordsSigns P.initOrder.toList) = wCut :: wordsSigns rest := by
  rw [h.h, String.toList_ofList, ws_word _ _ (by kernel_rfl), ws_word _ _ h.hn, ws_word _ _ (by kernel_rfl)]
  unfold behindMainWord
  have e : (wHarness == "harness".toList || wHarness == "ownmain".toList) = true := by kernel_rfl
  simp only [e, h.hs, Bool.and_self, if_true]
theorem strip_cut (r : List (List Char)) : stripLifts liftWords (wCut :: r) = ([], wCut :: r) := by kernel_rfl
theorem Head.may {P : Program} {sum rest : List Char} (h : Head P sum rest) (h1 : P.laysLater = false) (h2 : P.bearsReflect = false) (h3 : P.doorFits [] = true) : P.mayEnter = true := by
  unfold Program.mayEnter
  rw [h.words]
  have e : (some wCut == some "cut".toList) = true := by kernel_rfl
  simp only [strip_cut, h1, h2, h3, List.head?_cons, e, List.contains_nil, Bool.not_false, Bool.or_true, Bool.true_or, Bool.and_true, Bool.and_self]
theorem Head.lifts {P : Program} {sum rest : List Char} (h : Head P sum rest) : P.headLifts = [] := by
  unfold Program.headLifts
  rw [h.words, strip_cut]
  have e : (some wCut == some "cut".toList) = true := by kernel_rfl
  simp only [List.head?_cons, e, if_true]
theorem Head.final {P : Program} {sum rest : List Char} (h : Head P sum rest) : P.liftsFinal = false := by
  unfold Program.liftsFinal
  rw [h.lifts, h.words]
  have e : (some wCut == some "carried".toList) = false := by kernel_rfl
  simp only [List.head?_cons, e, Bool.false_and, List.contains_nil, Bool.or_self]
theorem Head.made {P : Program} {sum rest : List Char} (h : Head P sum rest) : P.make = some .cut := by
  unfold Program.make
  rw [h.words]
  have e1 : (wCut == "gc".toList || wCut == "spec".toList) = false := by kernel_rfl
  have e2 : (wCut == "cut".toList) = true := by kernel_rfl
  simp only [e1, e2, Bool.true_or, if_true, Bool.false_eq_true, if_false]
end Go.AL
