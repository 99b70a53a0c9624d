/-
  The abstract logic: the rules by which a walk is reckoned. Conditions: none.
-/
import Derived.Test.YtehlfgikcipdaaaAl13
set_option linter.all false
namespace Go.AL
open Go.RowKit

theorem list_toArray_toList {α : Type} (l : List α) : (List.toArray l).toList = l := rfl
theorem retV_some {P : Program} {rs : List ResultVar} {T : TT} {H : HH} {r v : AV} (h : resA P (lk T) (hk H) rs = some v) (h' : cvT (hk H) v = r) : ∃ v, resA P (lk T) (hk H) rs = some v ∧ cvT (hk H) v = r := ⟨v, h, h'⟩
theorem some_and {α : Type} (a : α) (p : α → Prop) : (∃ v, some a = some v ∧ p v) = p a := by
  refine propext ⟨?_, fun h => ⟨a, rfl, h⟩⟩
  rintro ⟨v, h, hp⟩; injection h with h; subst h; exact hp
theorem forall_mem_cons_ {α : Type} (a : α) (l : List α) (p : α → Prop) : (∀ x ∈ a :: l, p x) = (p a ∧ ∀ x ∈ l, p x) := by simp
theorem forall_mem_nil_ {α : Type} (p : α → Prop) : (∀ x ∈ ([] : List α), p x) = True := by simp
theorem forall_mem_arr {α : Type} (l : List α) (p : α → Prop) : (∀ x ∈ List.toArray l, p x) = (∀ x ∈ l, p x) := by simp
theorem imp_false_ {p : Prop} : (false = true → p) = True := by simp
theorem imp_true_ {p : Prop} : (true = true → p) = p := by simp
theorem cond_true_l (x y : Bool) : (bif x then true else y) = (x || y) := by cases x <;> rfl
theorem cond_false_r (x y : Bool) : (bif x then y else false) = (x && y) := by cases x <;> rfl
theorem and_beq_true (x y : Bool) : (x && (y == true)) = (x && y) := by simp
theorem beq_true_ (y : Bool) : (y == true) = y := by simp
theorem beq_false_ (y : Bool) : (y == false) = !y := by simp

theorem retQ_normal (P : Program) (rs : List ResultVar) (r : AV) (T : TT) (H : HH) (nx : Nat) : retQ P rs r .normal T H nx = ∃ v, resA P (lk T) (hk H) rs = some v ∧ cvT (hk H) v = r := rfl
theorem retQ_ret (P : Program) (rs : List ResultVar) (r : AV) (T : TT) (H : HH) (nx : Nat) : retQ P rs r .ret T H nx = ∃ v, resA P (lk T) (hk H) rs = some v ∧ cvT (hk H) v = r := rfl
theorem keq_ (v v' : AV) (rb rb' : List Nat) : KEq v rb ⟨v', [], 0, rb'⟩ = (v' = v ∧ rb' = rb) := by simp [KEq]

attribute [go_sem] acode_skip acode_region acode_seq acode_block acode_loop acode_scope qsc_normal qsc_ret qsc_exit acode_exit acode_label acode_ret abr_bool abr_nb acode_cond kcode_ kbr_ kreg_ dchk_false dchk_true nextQ_normal nextQ_exit nextQ_ret qblk_normal qblk_ret qblk_exit
  arun_cons arun_nil karun_mk retQ_normal retQ_ret keq_ lk_nil lk_cons hk_nil hk_cons
  ash agd gval ast ares_some ares_none aresX_some aresX_none aresGX_some aresGX_eff aresGX_none gst aop abi setT hputs hput evO ev AV.get AV.cond AV.ok AV.one AV.ptr AV.cells AV.subv AV.setv avOf avCell alen apick abin aint aun argT resA afNext afV afP chunks ones asrc bnd bndc resL resV cvT cvA cvC
  zav zbx zcn aeqs aeq veq akind kindOf Value.oneCell' Value.cells some_and forall_mem_cons_ forall_mem_nil_ forall_mem_arr imp_false_ imp_true_ list_toArray_toList cond_true_l cond_false_r beq_true_ beq_false_
  List.map_cons List.map_nil List.append_nil List.nil_append List.cons_append List.length_cons List.length_nil List.drop_zero List.drop_succ_cons List.take_zero List.take_succ_cons List.getD_cons_zero List.getD_cons_succ List.getElem?_cons_zero List.getElem?_cons_succ
  true_and and_true and_self if_true if_false imp_and Bool.true_and Bool.and_true Bool.false_or Bool.or_false Bool.not_true Bool.not_false Option.getD_some not_false_eq_true false_implies true_implies implies_true imp_self
end Go.AL
