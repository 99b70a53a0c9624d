/-
  The reference's FindPairs. Conditions: none.
-/
import Derived.Test.YtplmagdbnbijlaaGreatCU
import Derived.Test.YtplmagdbnbijlaaGreatMC
import Derived.Test.YtplmagdbnbijlaaGreatAlF
import Derived.Outline
set_option linter.all false
namespace Go.Proofs.YtplmagdbnbijlaaGreat
open Go.RowKit Go.AL Go.Carom
theorem kQ_in {a b : Bd} {p q : Nat} (h : okQ a b p q = true) : kQ a b p (q + 1) = kQ a b p q ++ [keyQ a b p q] := if_pos h
theorem kQ_out {a b : Bd} {p q : Nat} (h : okQ a b p q = false) : kQ a b p (q + 1) = kQ a b p q := if_neg (by rw [h]; decide)
theorem kQ_len (a b : Bd) (p : Nat) : ∀ q, (kQ a b p q).length ≤ q
  | 0 => Nat.le_refl _
  | q + 1 => by
    have := kQ_len a b p q
    cases h : okQ a b p q with
    | true => rw [kQ_in h, List.length_append, List.length_singleton]; omega
    | false => rw [kQ_out h]; omega
theorem kP_len (a b : Bd) (m : Nat) (hb : b.fs.length ≤ m) : ∀ p, (kP a b p).length ≤ p * m
  | 0 => by simp [kP]
  | p + 1 => by
    have h1 := kP_len a b m hb p
    have h2 := kQ_len a b p b.fs.length
    show (kP a b p ++ kQ a b p b.fs.length).length ≤ _
    rw [List.length_append, Nat.succ_mul]; omega
theorem kB_in {bs : List Bd} {js : List Jt} {i k : Nat} (h : okB bs js i k = true) : kB bs js i (k + 1) = kB bs js i k ++ kP (bs.getD i Bd.o) (bs.getD k Bd.o) (bs.getD i Bd.o).fs.length := if_pos h
theorem kB_out {bs : List Bd} {js : List Jt} {i k : Nat} (h : okB bs js i k = false) : kB bs js i (k + 1) = kB bs js i k := if_neg (by rw [h]; decide)
theorem kB_len {bs : List Bd} (hw : FW bs) (js : List Jt) {i : Nat} (hi : i < bs.length) : ∀ k, k ≤ bs.length → (kB bs js i k).length ≤ k * 64
  | 0, _ => by simp [kB]
  | k + 1, hk => by
    have h1 := kB_len hw js hi k (by omega)
    have h3 := (hw.f _ (getD_mem (d := Bd.o) hi)).1
    have h4 := (hw.f _ (getD_mem (l := bs) (j := k) (d := Bd.o) (by omega))).1
    rw [Nat.succ_mul]
    cases h : okB bs js i k with
    | true =>
      have h2 := kP_len (bs.getD i Bd.o) (bs.getD k Bd.o) 8 h4 (bs.getD i Bd.o).fs.length
      rw [kB_in h, List.length_append]; omega
    | false => rw [kB_out h]; omega
theorem kA_len {bs : List Bd} (hw : FW bs) (js : List Jt) : ∀ i, i ≤ bs.length → (kA bs js i).length ≤ i * 1280
  | 0, _ => by simp [kA]
  | i + 1, hi => by
    have h1 := kA_len hw js i (by omega)
    have h2 := kB_len hw js (i := i) (by omega) bs.length (Nat.le_refl _)
    have h3 := hw.b
    show (kA bs js i ++ kB bs js i bs.length).length ≤ _
    rw [List.length_append, Nat.succ_mul]; omega
end Go.Proofs.YtplmagdbnbijlaaGreat
