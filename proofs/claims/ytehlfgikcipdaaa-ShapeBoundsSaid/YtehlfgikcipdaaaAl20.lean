/-
  The abstract logic: a loop that keeps some temporaries and boxes as they are. Conditions: none.
-/
import Derived.Test.YtehlfgikcipdaaaAl18
set_option linter.all false
namespace Go.AL
open Go.RowKit

/-- the temporaries ks as they stand. -/
def selT (T : TT) : List Nat → TT
  | [] => []
  | t :: r => (t, lk T t) :: selT T r
/-- the boxes bs as they stand. -/
def selB : Option ABox → Nat → HH → HH
  | some x, b, r => (b, x) :: r
  | none, _, r => r
def selH (H : HH) : List Nat → HH
  | [] => []
  | b :: r => selB (hk H b) b (selH H r)
theorem selT_nil (T : TT) : selT T [] = [] := rfl
theorem selT_cons (T : TT) (t : Nat) (r : List Nat) : selT T (t :: r) = (t, lk T t) :: selT T r := rfl
theorem selH_nil (H : HH) : selH H [] = [] := rfl
theorem selH_cons (H : HH) (b : Nat) (r : List Nat) : selH H (b :: r) = selB (hk H b) b (selH H r) := rfl
theorem selB_some (x : ABox) (b : Nat) (r : HH) : selB (some x) b r = (b, x) :: r := rfl
theorem selB_none (b : Nat) (r : HH) : selB none b r = r := rfl

theorem tr_lp {P : Program} {n : Nat} (hm : P.follows .mixedOrders = true) {X : Type} (ks bs : List Nat) (ch : X → TT) (chH : X → HH) (μ : X → Nat) (x0 : X) {body : Code} {T : TT} {H : HH} {nx : Nat} {Q : Exit → TT → HH → Nat → Prop}
    (h0 : TWk T nx (ch x0 ++ selT T ks)) (h1 : HWk H nx (chH x0 ++ selH H bs))
    (round : ∀ x, acode P n body (ch x ++ selT T ks) (chH x ++ selH H bs) nx (nextQ (fun T' H' nx' => ∃ x', μ x' < μ x ∧ Wk T' H' nx' (ch x' ++ selT T ks) (chH x' ++ selH H bs) nx) Q)) : Tr P n (.loop body) T H nx Q :=
  tr_loop hm (fun x => ch x ++ selT T ks) (fun x => chH x ++ selH H bs) nx μ x0 (wk_go (Nat.le_refl _) h0 h1) round (Nat.le_refl _)
attribute [go_sem] selT_nil selT_cons selH_nil selH_cons selB_some selB_none
end Go.AL
