/-
  The types of maps. Conditions: none.
-/
import Derived.Test.YtplmagdbnbijlaaGreatPF
import Derived.Test.YtplmagdbnbijlaaGreatMA
import Derived.Test.YtplmagdbnbijlaaGreatAl24
import Derived.Outline
set_option linter.all false
namespace Go.Proofs.YtplmagdbnbijlaaGreat
open Go.RowKit Go.AL Go.Carom
theorem hasM_of {P : Program} {t kt et : TypeId} {ag : Bool} {ks : List (Option IntKind)} {z : Value} (hu : P.underlying t = some (.map kt et)) (hk : KeyT P kt ag ks) (hz : (P.info? et).bind (fun i => i.zero) = some z) : HasM P t ag ks z := by
  cases hi : P.info? et with
  | none => rw [hi] at hz; cases hz
  | some i => rw [hi] at hz; exact ⟨kt, et, i, hu, hk, hi, hz⟩
theorem mki_ck (em : Bool) (w : World) (a0 a1 a2 a3 : Int) : (Instr.checkKey em 10000 40 (formV true [.int .i64 a0, .int .i64 a1, .int .i64 a2, .int .i64 a3])).run Tryz.prog w = .ok () w := by kernel_rfl
theorem mki_key : KeyT Tryz.prog 40 true [some .i64, some .i64, some .i64, some .i64] where
  eq := by kernel_rfl
  agg := by kernel_rfl
  one := by decide
  ck := fun em w xs h => by
    match xs, (show xs.length = 4 by simpa using congrArg List.length h), h with
    | [a0, a1, a2, a3], _, h =>
      simp only [List.map_cons, List.map_nil, List.cons.injEq, and_true] at h
      obtain ⟨m0, rfl⟩ := kind_int (h.1)
      obtain ⟨m1, rfl⟩ := kind_int (h.2.1)
      obtain ⟨m2, rfl⟩ := kind_int (h.2.2.1)
      obtain ⟨m3, rfl⟩ := kind_int (h.2.2.2)
      exact mki_ck em w m0 m1 m2 m3
instance mki_map : HasM Tryz.prog 152 true [some .i64, some .i64, some .i64, some .i64] (.int .i64 0) := hasM_of (kt := 40) (et := 3) (by kernel_rfl) mki_key (by kernel_rfl)
theorem mkb_ck (em : Bool) (w : World) (a0 a1 a2 a3 : Int) : (Instr.checkKey em 10000 40 (formV true [.int .i64 a0, .int .i64 a1, .int .i64 a2, .int .i64 a3])).run Tryz.prog w = .ok () w := by kernel_rfl
theorem mkb_key : KeyT Tryz.prog 40 true [some .i64, some .i64, some .i64, some .i64] where
  eq := by kernel_rfl
  agg := by kernel_rfl
  one := by decide
  ck := fun em w xs h => by
    match xs, (show xs.length = 4 by simpa using congrArg List.length h), h with
    | [a0, a1, a2, a3], _, h =>
      simp only [List.map_cons, List.map_nil, List.cons.injEq, and_true] at h
      obtain ⟨m0, rfl⟩ := kind_int (h.1)
      obtain ⟨m1, rfl⟩ := kind_int (h.2.1)
      obtain ⟨m2, rfl⟩ := kind_int (h.2.2.1)
      obtain ⟨m3, rfl⟩ := kind_int (h.2.2.2)
      exact mkb_ck em w m0 m1 m2 m3
instance mkb_map : HasM Tryz.prog 142 true [some .i64, some .i64, some .i64, some .i64] (.bool false) := hasM_of (kt := 40) (et := 4) (by kernel_rfl) mkb_key (by kernel_rfl)
theorem mib_ck (em : Bool) (w : World) (a0 : Int) : (Instr.checkKey em 10000 3 (formV false [.int .i64 a0])).run Tryz.prog w = .ok () w := by kernel_rfl
theorem mib_key : KeyT Tryz.prog 3 false [some .i64] where
  eq := by kernel_rfl
  agg := by kernel_rfl
  one := by decide
  ck := fun em w xs h => by
    match xs, (show xs.length = 1 by simpa using congrArg List.length h), h with
    | [a0], _, h =>
      simp only [List.map_cons, List.map_nil, List.cons.injEq, and_true] at h
      obtain ⟨m0, rfl⟩ := kind_int (h)
      exact mib_ck em w m0
instance mib_map : HasM Tryz.prog 160 false [some .i64] (.bool false) := hasM_of (kt := 3) (et := 4) (by kernel_rfl) mib_key (by kernel_rfl)
end Go.Proofs.YtplmagdbnbijlaaGreat
