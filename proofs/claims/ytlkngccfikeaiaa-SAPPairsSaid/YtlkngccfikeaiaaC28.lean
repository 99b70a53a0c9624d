/-
  The types of maps. Conditions: none.
-/
import Derived.Test.YtlkngccfikeaiaaPF
import Derived.Test.YtlkngccfikeaiaaMA
import Derived.Test.YtlkngccfikeaiaaAl24
import Derived.Outline
set_option linter.all false
namespace Go.Proofs.Ytlkngccfikeaiaa
open Go.RowKit Go.AL Go.Carom
theorem hasM_of {P : Program} {t kt et : TypeId} {ag : Bool} {ks : List (Option IntKind)} {z : Value} (hu : P.underlying t = some (.map kt et)) (hk : KeyT P kt ag ks) (hz : (P.info? et).bind (fun i => i.zero) = some z) : HasM P t ag ks z := by
  cases hi : P.info? et with
  | none => rw [hi] at hz; cases hz
  | some i => rw [hi] at hz; exact ⟨kt, et, i, hu, hk, hi, hz⟩
theorem mib_ck (em : Bool) (w : World) (a0 : Int) : (Instr.checkKey em 10000 3 (formV false [.int .i64 a0])).run Try.prog w = .ok () w := by kernel_rfl
theorem mib_key : KeyT Try.prog 3 false [some .i64] where
  eq := by kernel_rfl
  agg := by kernel_rfl
  one := by decide
  ck := fun em w xs h => by
    match xs, (show xs.length = 1 by simpa using congrArg List.length h), h with
    | [a0], _, h =>
      simp only [List.map_cons, List.map_nil, List.cons.injEq, and_true] at h
      obtain ⟨m0, rfl⟩ := kind_int (h)
      exact mib_ck em w m0
instance mib_map : HasM Try.prog 74 false [some .i64] (.bool false) := hasM_of (kt := 3) (et := 4) (by kernel_rfl) mib_key (by kernel_rfl)
end Go.Proofs.Ytlkngccfikeaiaa
