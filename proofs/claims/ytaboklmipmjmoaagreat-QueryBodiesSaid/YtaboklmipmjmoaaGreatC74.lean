/-
  Lists of keys in one. Conditions: none.
-/
import Derived.Test.YtaboklmipmjmoaaGreatC72
import Derived.Test.YtaboklmipmjmoaaGreatC73
import Derived.Test.YtaboklmipmjmoaaGreatAlE
import Derived.Outline
set_option linter.all false
namespace Go.Proofs.YtaboklmipmjmoaaGreat
open Go.RowKit Go.AL Go.Carom Go.Shelf Go.Lib
def Tryz.growK_ren : Go.Shelf.Ren := ⟨fun | 4 => 255 | n => n, fun | 22 => 29 | 25 => 75 | 3 => 3 | 4 => 4 | 9 => 9 | 20 => 20 | 0 => 0 | n => n, fun | n => n⟩
theorem Tryz.growK : Go.Proofs.Lays8.n4 Tryz.prog Tryz.growK_ren := {
  mixed := by kernel_rfl
  f4 := ⟨Tryz.f255.name, by decide, Tryz.func255.trans (congrArg some (by kernel_rfl))⟩
  t0 := Tryz.underlying0
  a0 := Tryz.isAgg0
  z0 := Tryz.sizeOf0
  v0 := Tryz.zeroValue0
  t3 := Tryz.underlying3
  a3 := Tryz.isAgg3
  z3 := Tryz.sizeOf3
  v3 := Tryz.zeroValue3
  t4 := Tryz.underlying4
  a4 := Tryz.isAgg4
  z4 := Tryz.sizeOf4
  v4 := Tryz.zeroValue4
  t9 := Tryz.underlying9
  a9 := Tryz.isAgg9
  z9 := Tryz.sizeOf9
  v9 := Tryz.zeroValue9
  t20 := Tryz.underlying20
  a20 := Tryz.isAgg20
  z20 := Tryz.sizeOf20
  v20 := Tryz.zeroValue20
  t22 := Tryz.underlying29
  a22 := Tryz.isAgg29
  z22 := Tryz.sizeOf29
  v22 := Tryz.zeroValue29 }
set_option maxRecDepth 20000 in
set_option maxHeartbeats 4000000 in
theorem c_concat (k l : List K4) (hk : k.length ≤ 8192) (hl : l.length ≤ 8192) : PCall Tryz.prog 209 [.sl [.sl (k.map K4.v), .sl (l.map K4.v)]] (.sl ((k ++ l).map K4.v)) := by
  refine pcall_of_tr hm Tryz.func209 rfl (by kernel_rfl) Tryz.ntmps209 Tryz.results209 rfl (lt_cons (.sl _ (lt_cons (lt_k4s _ _) (lt_cons (lt_k4s _ _) lt_nil))) lt_nil) (lt_k4s _ _) ?_
  have w1 : IntKind.i64.wrap (0 + (k.length : Int)) = k.length := by rw [IntKind.wrap_i64]; omega
  have w2 : IntKind.i64.wrap ((k.length : Int) + l.length) = (k.length : Int) + l.length := by rw [IntKind.wrap_i64]; omega
  have d1 : ((k.length : Int) < 0) = False := eq_false (by omega)
  have d2 : ((k.length : Int) + l.length < 0) = False := eq_false (by omega)
  have w3 : IntKind.i64.wrap 1 = 1 := by kernel_rfl
  have w4 : IntKind.i64.wrap 2 = 2 := by kernel_rfl
  have k0 : ((0 : Nat) : Int) = 0 := rfl
  have k1 : ((1 : Nat) : Int) = 1 := rfl
  have k2 : ((2 : Nat) : Int) = 2 := rfl
  refine tr_seqc hm ?_
  repeat' (first | simp only [go_sem, ↓reduceIte, Nat.reduceLT, Nat.reduceEqDiff, Nat.reduceAdd, Nat.reduceLeDiff, Nat.reduceMul, Nat.reduceSub, reduceCtorEq, Int.reduceLT, Int.reduceLE, Int.reduceNeg, Int.reduceAdd, Int.reduceEq, Int.reduceToNat, w1, w2, w3, w4, d1, d2, nc0])
  refine ktr_go (tr_seqc hm ?_)
  repeat' (first | simp only [go_sem, ↓reduceIte, Nat.reduceLT, Nat.reduceEqDiff, Nat.reduceAdd, Nat.reduceLeDiff, Nat.reduceMul, Nat.reduceSub, reduceCtorEq, Int.reduceLT, Int.reduceLE, Int.reduceNeg, Int.reduceAdd, Int.reduceEq, Int.reduceToNat, w1, w2, w3, w4, d1, d2, nc0])
  refine ktr_go (tr_seqc hm ?_)
  repeat' (first | simp only [go_sem, ↓reduceIte, Nat.reduceLT, Nat.reduceEqDiff, Nat.reduceAdd, Nat.reduceLeDiff, Nat.reduceMul, Nat.reduceSub, reduceCtorEq, Int.reduceLT, Int.reduceLE, Int.reduceNeg, Int.reduceAdd, Int.reduceEq, Int.reduceToNat, k0, k1, k2, w1, w2, w3, w4, d1, d2, nc0] | refine tr_rounds hm (.s (.s (.s .z))) ?_)
  all_goals (try omega)
  refine ktr_go (tr_seqt ?_)
  refine tr_second ⟨.ow 1 0, [(1, .row 75 4 0 [])], 1, []⟩ rfl ?_
  repeat' (first | simp only [go_sem, ↓reduceIte, Nat.reduceLT, Nat.reduceEqDiff, Nat.reduceAdd, Nat.reduceLeDiff, Nat.reduceMul, Nat.reduceSub, reduceCtorEq, Int.reduceLT, Int.reduceLE, Int.reduceNeg, Int.reduceAdd, Int.reduceEq, Int.reduceToNat, nc0] | refine And.intro ?_ ?_)
  · intro C hP
    exact opS_grow Tryz.growK hP rfl rfl rfl (by kernel_rfl) rfl rfl (show AV.i ((k.length:Int)+l.length) = AV.i ((k.length+l.length : Nat):Int) from by rw [Int.natCast_add]) rfl rfl rfl (by omega) (by decide)
  · refine ktr_go (tr_ac hm ?_)
    repeat' (first | simp only [go_sem, ↓reduceIte, Nat.reduceLT, Nat.reduceEqDiff, Nat.reduceAdd, Nat.reduceLeDiff, Nat.reduceMul, Nat.reduceSub, reduceCtorEq, Int.reduceLT, Int.reduceLE, Int.reduceNeg, Int.reduceAdd, Int.reduceEq, Int.reduceToNat, k0, k1, k2, w3, w4, d1, d2, nc0] | refine tr_rounds hm (.s (.s (.s .z))) ?_ | refine And.intro ?_ ?_)
    all_goals (try omega)
    all_goals first
      | (rw [List.map_append]; done)
      | (intro x hx; obtain ⟨q, _, rfl⟩ := List.mem_map.1 hx; rfl)
      | (intro x hx c hc; obtain ⟨q, _, rfl⟩ := List.mem_map.1 hx
         have hc' : c ∈ [AV.i q.a, AV.i q.fa, AV.i q.b, AV.i q.fb] := hc
         simp only [List.mem_cons, List.not_mem_nil, or_false] at hc'
         rcases hc' with rfl | rfl | rfl | rfl <;> rfl)
      | trace_state
end Go.Proofs.YtaboklmipmjmoaaGreat
