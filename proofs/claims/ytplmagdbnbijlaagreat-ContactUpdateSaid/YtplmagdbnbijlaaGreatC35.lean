/-
  The law ManifoldFlip. Conditions: none.
-/
import Derived.Test.YtplmagdbnbijlaaGreatC33
import Derived.Test.YtplmagdbnbijlaaGreatCX
import Derived.Test.YtplmagdbnbijlaaGreatMG
import Derived.Test.YtplmagdbnbijlaaGreatAlD
import Derived.Outline
set_option maxHeartbeats 4000000
set_option maxRecDepth 20000
set_option linter.all false
namespace Go.Proofs.YtplmagdbnbijlaaGreat
open Go.RowKit Go.AL Go.Carom
theorem c_rcln (x y : Int) (l : List P6) (h5 : l.length ≤ 1000000) : PCall Tryz.prog 245 [.agg [.i x,.i y,.sl (l.map P6.v)]] (.agg [.i x,.i y,.sl (l.map P6.v)]):=by
  refine pcall_of hm Tryz.func245 rfl (by kernel_rfl) (by rw [Tryz.ntmps245]; exact Nat.le_of_ble_eq_true rfl) (lt_cons (lt_agg (lt_cons (lt_i _ _) (lt_cons (lt_i _ _) (lt_cons (lt_p6s _ _) lt_nil)))) lt_nil) (lt_agg (lt_cons (lt_i _ _) (lt_cons (lt_i _ _) (lt_cons (lt_p6s _ _) lt_nil)))) ?_
  rw [Tryz.ntmps245,Tryz.results245]
  repeat' (first|simp only [go_sem,↓reduceIte,Nat.reduceLT,Nat.reduceEqDiff,Nat.reduceAdd,Nat.reduceLeDiff,Nat.reduceMul,reduceCtorEq,imp_self,List.range_zero,List.replicate_zero,List.flatten_nil,List.all_nil,forall_and,List.length_map,true_and,and_true]|(refine regOk_go ?_; kernel_rfl)|refine And.intro ?_ ?_)
  all_goals first
    | exact p6s_len l
    | exact p6s_one l
    | omega
    | (intro hk
       have : l = []:=List.eq_nil_of_length_eq_zero (by
         rcases Nat.eq_zero_or_pos l.length with h|h
         · exact h
         · exact (hk (decide_eq_true h)).elim)
       subst this
       rfl)
theorem c_rflip (x y : Int) (l : List P6) (h5 : l.length ≤ 1000000) : PCall Tryz.prog 155 [.agg [.i x,.i y,.sl (l.map P6.v)]] (.agg [.i (ng x),.i (ng y),.sl (l.map P6.v)]):=by
 refine pcall_of hm Tryz.func155 rfl (by kernel_rfl) (by rw [Tryz.ntmps155]; exact Nat.le_of_ble_eq_true rfl) (lt_cons (lt_agg (lt_cons (lt_i _ _) (lt_cons (lt_i _ _) (lt_cons (lt_p6s _ _) lt_nil)))) lt_nil) (lt_agg (lt_cons (lt_i _ _) (lt_cons (lt_i _ _) (lt_cons (lt_p6s _ _) lt_nil)))) ?_
 rw [Tryz.ntmps155,Tryz.results155]
 have i1 : HasC Tryz.prog 245 [.agg [.i x,.i y,.sl (l.map P6.v)]] (.agg [.i x,.i y,.sl (l.map P6.v)]):=⟨c_rcln x y l h5⟩
 repeat' (first|simp only [go_sem,↓reduceIte,Nat.reduceLT,Nat.reduceEqDiff,Nat.reduceAdd,Nat.reduceLeDiff,reduceCtorEq,imp_self,true_and,and_true]|refine cst_go ?_)
 all_goals rfl
end Go.Proofs.YtplmagdbnbijlaaGreat
